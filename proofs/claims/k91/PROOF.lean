import PyProof.Rows.All
import Wide.All
import OpenK.AllK
import Wide.FinOn
import HandS.ForMost
import HandS.Wide
import HandS.EndBits
import HandS.RaiseMore
import HandS.IsInst
import HandS.Conv
import HandS.WordsExc
import HandS.TupAny
import HandS.WideBits
import HandS.Deep
import HandS.SortInts
import HandS.Gcd
import HandS.Style
import HandS.Zip
import HandS.Rev
import HandS.HotCalls
import HandS.ExcIs
import HandS.TupMul
import HandS.Iter
import HandS.Dict
import PyProof.StrLawsRepr
import PySem.Challenge.RW_manybases_k91_whole_greedy_ends
set_option Elab.async false
set_option linter.all false
set_option maxRecDepth 100000
set_option maxHeartbeats 4000000
/-! Z1: a layer over data: slots hold data (PyData) or raw values, what is mutable lies in a list of cells. -/
namespace Z
open PySem PySem.Spec PyProof.Rows L2
/-! ### values, cells, states -/
/-- data (lists in it are objects of our own that never change again); a list that is only read (the script); any other value, raw -/
inductive SV where
  | d (x : PyData)
  | l (xs : List PyData)
  | r (v : V)
inductive OC where
  | lst (xs : List PyData)
  | lx (xs : List SV)
  | dk (kvs : List (Key × SV))
  | dt (kvs : List (List Key × SV))
  | raw (o : HO)
abbrev Rho := List (Option SV)
abbrev Om := List (Addr × OC)
abbrev Frag := PySem.W.Frag
theorem sqt_same {K : Frag} {H H' : Hp} {a : Addr} {xs : List V} (e : Same H H') (h : SqT K H a xs) : SqT K H' a xs := by
  rcases h with (h | ⟨o, h⟩) | h
  · exact Or.inl (Or.inl (e _ _ h))
  · exact Or.inl (Or.inr ⟨o, e _ _ h⟩)
  · exact Or.inr h
/-- a key as data -/
def keyD : Key → PyData
  | .inl i => .int i
  | .inr x => .str x
mutual
/-- v is data d in F: as Dp, but a list is an object that F tracks itself -/
inductive Dq (K : Frag) (F : Hp) : V → PyData → Prop
  | non : Dq K F .non .none
  | bl (b : Bool) : Dq K F (.bl b) (.bool b)
  | int (i : Int) : Dq K F (.int i) (.int i)
  | str (x : Str) : Dq K F (.str x) (.str x)
  | lst {a : Addr} {xs : List V} {ds : List PyData} : F a = some (.lst xs) → DqAll K F xs ds → Dq K F (.ref a) (.list ds)
  | tup {a : Addr} {xs : List V} {ds : List PyData} : SqT K F a xs → DqAll K F xs ds → Dq K F (.ref a) (.tuple ds)
  | dct {a : Addr} {kvs : List (Key × V)} {ds : List (PyData × PyData)} : F a = some (.dK kvs) → DqKv K F kvs ds → Dq K F (.ref a) (.dict ds)
inductive DqAll (K : Frag) (F : Hp) : List V → List PyData → Prop
  | nil : DqAll K F [] []
  | cons {v : V} {vs : List V} {d : PyData} {ds : List PyData} : Dq K F v d → DqAll K F vs ds → DqAll K F (v :: vs) (d :: ds)
inductive DqKv (K : Frag) (F : Hp) : List (Key × V) → List (PyData × PyData) → Prop
  | nil : DqKv K F [] []
  | cons {k : Key} {v : V} {kvs : List (Key × V)} {d : PyData} {ds : List (PyData × PyData)} : Dq K F v d → DqKv K F kvs ds → DqKv K F ((k, v) :: kvs) ((keyD k, d) :: ds)
end
mutual
theorem dq_same {K : Frag} {H H' : Hp} (e : Same H H') : ∀ (d : PyData) (v : V), Dq K H v d → Dq K H' v d
  | .none, _, h => by cases h; exact .non
  | .bool b, _, h => by cases h; exact .bl b
  | .int i, _, h => by cases h; exact .int i
  | .str x, _, h => by cases h; exact .str x
  | .list ds, _, h => by
    cases h with
    | lst hs ha => exact .lst (e _ _ hs) (dqa_same e ds _ ha)
  | .tuple ds, _, h => by
    cases h with
    | tup hs ha => exact .tup (sqt_same e hs) (dqa_same e ds _ ha)
  | .dict ds, _, h => by
    cases h with
    | dct hs ha => exact .dct (e _ _ hs) (dqkv_same e ds _ ha)
theorem dqa_same {K : Frag} {H H' : Hp} (e : Same H H') : ∀ (ds : List PyData) (vs : List V), DqAll K H vs ds → DqAll K H' vs ds
  | [], _, h => by cases h; exact .nil
  | d :: ds, _, h => by
    cases h with
    | cons h1 h2 => exact .cons (dq_same e d _ h1) (dqa_same e ds _ h2)
theorem dqkv_same {K : Frag} {H H' : Hp} (e : Same H H') : ∀ (ds : List (PyData × PyData)) (vs : List (Key × V)), DqKv K H vs ds → DqKv K H' vs ds
  | [], _, h => by cases h; exact .nil
  | (_, d) :: ds, _, h => by
    cases h with
    | cons h1 h2 => exact .cons (dq_same e d _ h1) (dqkv_same e ds _ h2)
end
mutual
theorem Dq.dp {K : Frag} {H : Hp} : ∀ (d : PyData) (v : V), Dq K H v d → d.hasDict = false → Dp K H v d
  | .none, _, h, _ => by cases h; exact .non
  | .bool b, _, h, _ => by cases h; exact .bl b
  | .int i, _, h, _ => by cases h; exact .int i
  | .str x, _, h, _ => by cases h; exact .str x
  | .list ds, _, h, n => by
    cases h with
    | lst hs ha => exact .lst (SqL.of hs) (DqAll.dp ds _ ha (by rw [PyData.hasDict] at n; exact n))
  | .tuple ds, _, h, n => by
    cases h with
    | tup hs ha => exact .tup hs (DqAll.dp ds _ ha (by rw [PyData.hasDict] at n; exact n))
  | .dict _, _, h, n => by simp [PyData.hasDict] at n
theorem DqAll.dp {K : Frag} {H : Hp} : ∀ (ds : List PyData) (vs : List V), DqAll K H vs ds → PyData.hasDictAll ds = false → DpAll K H vs ds
  | [], _, h, _ => by cases h; exact .nil
  | d :: ds, _, h, n => by
    rw [PyData.hasDictAll, Bool.or_eq_false_iff] at n
    cases h with
    | cons h1 h2 => exact .cons (Dq.dp d _ h1 n.1) (DqAll.dp ds _ h2 n.2)
end
theorem dqi {K : Frag} {F : Hp} {v : V} {i : Int} (h : Dq K F v (.int i)) : v = .int i := by cases h; rfl
theorem dqb {K : Frag} {F : Hp} {v : V} {b : Bool} (h : Dq K F v (.bool b)) : v = .bl b := by cases h; rfl
theorem dqs {K : Frag} {F : Hp} {v : V} {x : Str} (h : Dq K F v (.str x)) : v = .str x := by cases h; rfl
theorem dqn {K : Frag} {F : Hp} {v : V} (h : Dq K F v .none) : v = .non := by cases h; rfl
theorem dql {K : Frag} {F : Hp} {v : V} {ds : List PyData} (h : Dq K F v (.list ds)) : ∃ a xs, v = .ref a ∧ F a = some (.lst xs) ∧ DqAll K F xs ds := by cases h with | lst hs ha => exact ⟨_, _, rfl, hs, ha⟩
theorem dqt {K : Frag} {F : Hp} {v : V} {ds : List PyData} (h : Dq K F v (.tuple ds)) : ∃ a xs, v = .ref a ∧ SqT K F a xs ∧ DqAll K F xs ds := by cases h with | tup hs ha => exact ⟨_, _, rfl, hs, ha⟩
mutual
/-- a list is somewhere in it -/
def hasList : PyData → Bool
  | .list _ => true
  | .tuple xs => hasListAll xs
  | .dict kvs => hasListKv kvs
  | _ => false
def hasListAll : List PyData → Bool
  | [] => false
  | x :: xs => hasList x || hasListAll xs
def hasListKv : List (PyData × PyData) → Bool
  | [] => false
  | (_, v) :: r => hasList v || hasListKv r
end
def Rp (K : Frag) (F : Hp) (v : V) : SV → Prop
  | .d x => Dq K F v x
  | .l ds => ∃ a xs, v = .ref a ∧ SqL K F a xs ∧ DqAll K F xs ds
  | .r u => v = u
theorem Rp.same {K : Frag} {F F' : Hp} (e : Same F F') : ∀ {v : V} {s : SV}, Rp K F v s → Rp K F' v s
  | v, .d x, h => dq_same e x v h
  | _, .l ds, ⟨a, xs, h1, h2, h3⟩ => ⟨a, xs, h1, e.seq h2, dqa_same e ds xs h3⟩
  | _, .r _, h => h
def RpO (K : Frag) (F : Hp) : HO → OC → Prop
  | .lst vs, .lst xs => DqAll K F vs xs
  | .lst vs, .lx xs => Paired (Rp K F) vs xs
  | .dK kvs, .dk ys => Paired (fun p q => p.1 = q.1 ∧ Rp K F p.2 q.2) kvs ys
  | .dT kvs, .dt ys => Paired (fun p q => p.1 = q.1 ∧ Rp K F p.2 q.2) kvs ys
  | o, .raw o' => o = o'
  | _, _ => False
theorem RpO.same {K : Frag} {F F' : Hp} (e : Same F F') {o : HO} {c : OC} (h : RpO K F o c) : RpO K F' o c := by
  unfold RpO at h ⊢
  split at h
  · exact dqa_same e _ _ h
  · exact Paired.mapP h fun _ _ q => q.same e
  · exact Paired.mapP h fun _ _ q => ⟨q.1, q.2.same e⟩
  · exact Paired.mapP h fun _ _ q => ⟨q.1, q.2.same e⟩
  · exact h
  · exact h.elim
def RpS (K : Frag) (F : Hp) (o : Option V) : Option SV → Prop
  | none => True
  | some x => ∃ v, o = some v ∧ Rp K F v x
abbrev RpE (K : Frag) (F : Hp) : L2.St → Rho → Prop := Paired (RpS K F)
theorem RpS.same {K : Frag} {F F' : Hp} (e : Same F F') : ∀ {o : Option V} {s : Option SV}, RpS K F o s → RpS K F' o s
  | _, none, _ => trivial
  | _, some _, ⟨v, h, q⟩ => ⟨v, h, q.same e⟩
theorem rpe_same {K : Frag} {F F' : Hp} (e : Same F F') {σ : L2.St} {ρ : Rho} (h : RpE K F σ ρ) : RpE K F' σ ρ := Paired.mapP h fun _ _ q => q.same e
theorem rps_same {K : Frag} {F F' : Hp} (e : Same F F') {σ : List V} {ρ : List SV} (h : Paired (Rp K F) σ ρ) : Paired (Rp K F') σ ρ := Paired.mapP h fun _ _ q => q.same e
theorem rpe_get {K : Frag} {F : Hp} : ∀ {σ : L2.St} {ρ : Rho} {i : Nat} {x : SV}, RpE K F σ ρ → ρ[i]? = some (some x) → ∃ v, σ[i]? = some (some v) ∧ Rp K F v x
  | _, _, _, _, .nil, e => by simp at e
  | _, _, 0, x, .cons r _, e => by
    simp at e; subst e
    obtain ⟨v, rfl, q⟩ := r
    exact ⟨v, rfl, q⟩
  | _, _, i + 1, x, .cons _ t, e => by
    obtain ⟨v, h1, h2⟩ := rpe_get (i := i) (x := x) t (by simpa using e)
    exact ⟨v, by simpa using h1, h2⟩
theorem pr_set {α β : Type} {R : α → β → Prop} {x : α} {y : β} (r : R x y) : ∀ {l : List α} {m : List β} (i : Nat), Paired R l m → Paired R (l.set i x) (m.set i y)
  | _, _, _, .nil => .nil
  | _, _, 0, .cons _ t => .cons r t
  | _, _, i + 1, .cons q t => .cons q (pr_set r i t)
theorem pr_app {α β : Type} {R : α → β → Prop} : ∀ {l l' : List α} {m m' : List β}, Paired R l m → Paired R l' m' → Paired R (l ++ l') (m ++ m')
  | _, _, _, _, .nil, s => s
  | _, _, _, _, .cons r t, s => .cons r (pr_app t s)
theorem pr_take {α β : Type} {R : α → β → Prop} : ∀ {l : List α} {m : List β} (n : Nat), Paired R l m → Paired R (l.take n) (m.take n)
  | _, _, 0, _ => .nil
  | _, _, _ + 1, .nil => .nil
  | _, _, n + 1, .cons r t => .cons r (pr_take n t)
theorem pr_drop {α β : Type} {R : α → β → Prop} : ∀ {l : List α} {m : List β} (n : Nat), Paired R l m → Paired R (l.drop n) (m.drop n)
  | _, _, 0, r => r
  | _, _, _ + 1, .nil => .nil
  | _, _, n + 1, .cons _ t => pr_drop n t
theorem pr_get {α β : Type} {R : α → β → Prop} : ∀ {l : List α} {m : List β} {i : Nat} {y : β}, Paired R l m → m[i]? = some y → ∃ x, l[i]? = some x ∧ R x y
  | _, _, _, _, .nil, e => by simp at e
  | _, _, 0, y, .cons r _, e => by simp at e; subst e; exact ⟨_, rfl, r⟩
  | _, _, i + 1, y, .cons _ t, e => by
    obtain ⟨v, h1, h2⟩ := pr_get (i := i) (y := y) t (by simpa using e)
    exact ⟨v, by simpa using h1, h2⟩
theorem pr_getL {α β : Type} {R : α → β → Prop} : ∀ {l : List α} {m : List β} {i : Nat} {x : α}, Paired R l m → l[i]? = some x → ∃ y, m[i]? = some y ∧ R x y
  | _, _, _, _, .nil, e => by simp at e
  | _, _, 0, y, .cons r _, e => by simp at e; subst e; exact ⟨_, rfl, r⟩
  | _, _, i + 1, y, .cons _ t, e => by
    obtain ⟨v, h1, h2⟩ := pr_getL (i := i) (x := y) t (by simpa using e)
    exact ⟨v, by simpa using h1, h2⟩
theorem pr_rev {α β : Type} {R : α → β → Prop} : ∀ {l : List α} {m : List β}, Paired R l m → Paired R l.reverse m.reverse
  | _, _, .nil => .nil
  | _, _, .cons r t => by
    rw [List.reverse_cons, List.reverse_cons]
    exact pr_app (pr_rev t) (.cons r .nil)
theorem pr_erase {α β : Type} {R : α → β → Prop} : ∀ {l : List α} {m : List β} (n : Nat), Paired R l m → Paired R (l.eraseIdx n) (m.eraseIdx n)
  | _, _, _, .nil => .nil
  | _, _, 0, .cons _ t => t
  | _, _, n + 1, .cons r t => .cons r (pr_erase n t)
theorem pr_dropLast {α β : Type} {R : α → β → Prop} {l : List α} {m : List β} (h : Paired R l m) : Paired R l.dropLast m.dropLast := by
  rw [List.dropLast_eq_take, List.dropLast_eq_take, h.length]
  exact pr_take _ h
/-- data lists -/
theorem dqa_of {K : Frag} {F : Hp} : ∀ {vs : List V} {ds : List PyData}, Paired (Rp K F) vs (ds.map SV.d) → DqAll K F vs ds
  | _, [], h => by cases h; exact .nil
  | _, d :: ds, h => by
    cases h with
    | cons r t => exact .cons r (dqa_of t)
theorem of_dqa {K : Frag} {F : Hp} : ∀ {vs : List V} {ds : List PyData}, DqAll K F vs ds → Paired (Rp K F) vs (ds.map SV.d)
  | _, [], h => by cases h; exact .nil
  | _, d :: ds, h => by
    cases h with
    | cons r t => exact .cons r (of_dqa t)
theorem dqa_len {K : Frag} {F : Hp} {vs : List V} {ds : List PyData} (h : DqAll K F vs ds) : vs.length = ds.length := by
  have q := (of_dqa h).length
  rw [List.length_map] at q
  exact q
/-! ### the entry of a def, and the state -/
structure Gn where
  F0 : Hp
  H0 : Hp
  P0 : Hp
structure En extends Gn where
  K : Frag
/-- P: what is left alone; F: what is frozen (data rests on it); Ω: the cells, apart from both -/
structure Ok (E : En) (P F H : Hp) (Ω : Om) : Prop where
  p0 : Same E.P0 P
  pf : Same P H
  pd : ∀ p ∈ Ω, P p.1 = none
  pF : ∀ a, P a ≠ none → F a = none
  f0 : Same E.F0 F
  fn : ∀ a, F a ≠ none → E.F0 a = none → E.H0 a = none
  dm : ∀ a, H a = none → E.H0 a = none
  ex : Same F H
  own : ∀ p ∈ Ω, F p.1 = none ∧ ∃ o, H p.1 = some o ∧ RpO E.K F o p.2
  nd : (Ω.map (·.1)).Nodup
section
variable {E : En} {P F H : Hp} {Ω : Om}
theorem Ok.free (h : Ok E P F H Ω) {a : Addr} (e : H a = none) : F a = none := h.ex.free e
/-- a new object, frozen at once -/
theorem Ok.newF (h : Ok E P F H Ω) {p : Addr} {o : HO} (e : H p = none) : Ok E P (upd F p o) (upd H p o) Ω ∧ Same F (upd F p o) := by
  have sF : Same F (upd F p o) := fun b u q => by rw [upd_ne (ne_of_none q (h.free e))]; exact q
  refine ⟨⟨h.p0, fun b u q => by rw [upd_ne (ne_of_none (h.pf b u q) e)]; exact h.pf b u q, h.pd, fun a q => by rw [upd_ne (fun z => q (by rw [z]; exact h.pf.free e))]; exact h.pF a q, h.f0.trans sF, fun a q z => ?_, fun a q => ?_, fun b u q => ?_, fun x hx => ?_, h.nd⟩, sF⟩
  · by_cases ha : a = p
    · rw [ha]; exact h.dm p e
    · rw [upd_ne ha] at q; exact h.fn a q z
  · by_cases ha : a = p
    · rw [ha]; exact h.dm p e
    · rw [upd_ne ha] at q; exact h.dm a q
  · by_cases hb : b = p
    · rw [hb] at q ⊢; rw [upd_same] at q ⊢; exact q
    · rw [upd_ne hb] at q ⊢; exact h.ex b u q
  · obtain ⟨h1, u, h2, h3⟩ := h.own x hx
    have ne : x.1 ≠ p := ne_of_none h2 e
    exact ⟨by rw [upd_ne ne]; exact h1, u, by rw [upd_ne ne]; exact h2, h3.same sF⟩
/-- a new object, a cell -/
theorem Ok.newO (h : Ok E P F H Ω) {p : Addr} {o : HO} {c : OC} (e : H p = none) (r : RpO E.K F o c) : Ok E P F (upd H p o) ((p, c) :: Ω) := by
  have nF := h.free e
  refine ⟨h.p0, fun b u q => by rw [upd_ne (ne_of_none (h.pf b u q) e)]; exact h.pf b u q, fun x hx => ?_, h.pF, h.f0, h.fn, fun a q => ?_, fun b u q => ?_, fun x hx => ?_, ?_⟩
  · rcases List.mem_cons.mp hx with rfl | hx
    · exact h.pf.free e
    · exact h.pd x hx
  · by_cases ha : a = p
    · rw [ha]; exact h.dm p e
    · rw [upd_ne ha] at q; exact h.dm a q
  · rw [upd_ne (ne_of_none q nF)]; exact h.ex b u q
  · rcases List.mem_cons.mp hx with rfl | hx
    · exact ⟨nF, o, upd_same, r⟩
    · obtain ⟨h1, u, h2, h3⟩ := h.own x hx
      exact ⟨h1, u, by rw [upd_ne (ne_of_none h2 e)]; exact h2, h3⟩
  · rw [List.map_cons]
    refine List.nodup_cons.mpr ⟨fun hm => ?_, h.nd⟩
    obtain ⟨x, hx, hp⟩ := List.mem_map.mp hm
    obtain ⟨_, u, h2, _⟩ := h.own x hx
    rw [hp, e] at h2
    cases h2
/-- a new object that nothing is to know -/
theorem Ok.newX (h : Ok E P F H Ω) {p : Addr} {o : HO} (e : H p = none) : Ok E P F (upd H p o) Ω := by
  have k := h.newO (c := .raw o) e (show RpO E.K F o (.raw o) by cases o <;> rfl)
  exact ⟨k.p0, k.pf, fun x hx => k.pd x (List.mem_cons_of_mem _ hx), k.pF, k.f0, k.fn, k.dm, k.ex, fun x hx => k.own x (List.mem_cons_of_mem _ hx), (List.nodup_cons.mp k.nd).2⟩
end
/-- the cell at a, and what the cells are with another thing there -/
inductive At : Om → Addr → OC → (OC → Om) → Prop where
  | here {a : Addr} {c : OC} {Ω : Om} : At ((a, c) :: Ω) a c (fun z => (a, z) :: Ω)
  | there {a : Addr} {c : OC} {Ω : Om} {p : Addr × OC} {f : OC → Om} : At Ω a c f → At (p :: Ω) a c (fun z => p :: f z)
theorem At.mem : ∀ {Ω : Om} {a : Addr} {c : OC} {f : OC → Om}, At Ω a c f → (a, c) ∈ Ω
  | _, _, _, _, .here => List.mem_cons_self
  | _, _, _, _, .there h => List.mem_cons_of_mem _ h.mem
theorem At.addrs : ∀ {Ω : Om} {a : Addr} {c : OC} {f : OC → Om}, At Ω a c f → ∀ z, (f z).map (·.1) = Ω.map (·.1)
  | _, _, _, _, .here, _ => rfl
  | _, _, _, _, .there h, z => by rw [List.map_cons, List.map_cons, h.addrs z]
theorem At.mems : ∀ {Ω : Om} {a : Addr} {c : OC} {f : OC → Om}, At Ω a c f → ∀ z x, x ∈ f z → x = (a, z) ∨ x ∈ Ω
  | _, _, _, _, .here, z, x, h => by
    rcases List.mem_cons.mp h with h | h
    · exact Or.inl h
    · exact Or.inr (List.mem_cons_of_mem _ h)
  | _, _, _, _, .there t, z, x, h => by
    rcases List.mem_cons.mp h with h | h
    · exact Or.inr (h ▸ List.mem_cons_self)
    · rcases t.mems z x h with q | q
      · exact Or.inl q
      · exact Or.inr (List.mem_cons_of_mem _ q)
theorem At.after : ∀ {Ω : Om} {a : Addr} {c : OC} {f : OC → Om}, At Ω a c f → ∀ z, At (f z) a z f
  | _, _, _, _, .here, z => .here
  | _, _, _, _, .there h, z => .there (h.after z)
section
variable {E : En} {P F H : Hp} {Ω : Om}
theorem nd_inj {α β : Type} {f : α → β} : ∀ {l : List α} {x y : α}, (l.map f).Nodup → x ∈ l → y ∈ l → f x = f y → x = y
  | [], _, _, _, h, _, _ => by cases h
  | z :: l, x, y, nd, hx, hy, e => by
    rw [List.map_cons] at nd
    obtain ⟨n1, n2⟩ := List.nodup_cons.mp nd
    rcases List.mem_cons.mp hx with h1 | h1
    · rcases List.mem_cons.mp hy with h2 | h2
      · rw [h1, h2]
      · rw [h1] at e
        exact absurd (by rw [e]; exact List.mem_map_of_mem h2) n1
    · rcases List.mem_cons.mp hy with h2 | h2
      · rw [h2] at e
        exact absurd (by rw [← e]; exact List.mem_map_of_mem h1) n1
      · exact nd_inj n2 h1 h2 e
theorem Ok.at_ (h : Ok E P F H Ω) {a : Addr} {c : OC} {f : OC → Om} (t : At Ω a c f) : F a = none ∧ ∃ o, H a = some o ∧ RpO E.K F o c := h.own _ t.mem
theorem Ok.lst (h : Ok E P F H Ω) {a : Addr} {xs : List PyData} {f : OC → Om} (t : At Ω a (.lst xs) f) : ∃ vs, H a = some (.lst vs) ∧ DqAll E.K F vs xs := by
  obtain ⟨_, o, h1, h2⟩ := h.at_ t
  cases o <;> first | exact ⟨_, h1, h2⟩ | exact (show False from h2).elim
theorem Ok.lx (h : Ok E P F H Ω) {a : Addr} {xs : List SV} {f : OC → Om} (t : At Ω a (.lx xs) f) : ∃ vs, H a = some (.lst vs) ∧ Paired (Rp E.K F) vs xs := by
  obtain ⟨_, o, h1, h2⟩ := h.at_ t
  cases o <;> first | exact ⟨_, h1, h2⟩ | exact (show False from h2).elim
theorem Ok.dk (h : Ok E P F H Ω) {a : Addr} {xs : List (Key × SV)} {f : OC → Om} (t : At Ω a (.dk xs) f) : ∃ vs, H a = some (.dK vs) ∧ Paired (fun p q => p.1 = q.1 ∧ Rp E.K F p.2 q.2) vs xs := by
  obtain ⟨_, o, h1, h2⟩ := h.at_ t
  cases o <;> first | exact ⟨_, h1, h2⟩ | exact (show False from h2).elim
/-- the cell at a is changed -/
theorem Ok.put (h : Ok E P F H Ω) {a : Addr} {c z : OC} {f : OC → Om} {o : HO} (t : At Ω a c f) (r : RpO E.K F o z) : Ok E P F (upd H a o) (f z) := by
  obtain ⟨nF, o0, h0, _⟩ := h.at_ t
  have nP : P a = none := h.pd _ t.mem
  refine ⟨h.p0, fun b u q => by rw [upd_ne (ne_of_none q nP)]; exact h.pf b u q, fun x hx => ?_, h.pF, h.f0, h.fn, fun b q => ?_, fun b u q => ?_, fun x hx => ?_, by rw [t.addrs z]; exact h.nd⟩
  · rcases t.mems z x hx with q | q
    · rw [q]; exact nP
    · exact h.pd x q
  · by_cases hb : b = a
    · rw [hb, upd_same] at q; cases q
    · rw [upd_ne hb] at q; exact h.dm b q
  · rw [upd_ne (ne_of_none q nF)]; exact h.ex b u q
  · by_cases hb : x.1 = a
    · have e : x = (a, z) := nd_inj (f := (·.1)) (l := f z) (by rw [t.addrs z]; exact h.nd) hx (t.after z).mem hb
      rw [e]
      exact ⟨nF, o, upd_same, r⟩
    · rcases t.mems z x hx with q | q
      · rw [q] at hb; exact absurd rfl hb
      · obtain ⟨h1, u, h2, h3⟩ := h.own x q
        exact ⟨h1, u, by rw [upd_ne hb]; exact h2, h3⟩
/-- a cell is frozen -/
theorem Ok.frz (h : Ok E P F H Ω) {Ω' : Om} {a : Addr} {c : OC} {o : HO} (ha : H a = some o) (n0 : E.H0 a = none) (nF : F a = none) (nP : P a = none) (hm : ∀ x ∈ Ω', x ∈ Ω ∧ x.1 ≠ a) (nd : (Ω'.map (·.1)).Nodup) : Ok E P (upd F a o) H Ω' ∧ Same F (upd F a o) := by
  have sF : Same F (upd F a o) := fun b u q => by rw [upd_ne (ne_of_none q nF)]; exact q
  refine ⟨⟨h.p0, h.pf, fun x hx => h.pd x (hm x hx).1, fun b q => by rw [upd_ne (fun z => q (by rw [z]; exact nP))]; exact h.pF b q, h.f0.trans sF, fun b q z => ?_, h.dm, fun b u q => ?_, fun x hx => ?_, nd⟩, sF⟩
  · by_cases hb : b = a
    · rw [hb]; exact n0
    · rw [upd_ne hb] at q; exact h.fn b q z
  · by_cases hb : b = a
    · rw [hb] at q ⊢; rw [upd_same] at q; rw [ha]; exact q
    · rw [upd_ne hb] at q; exact h.ex b u q
  · obtain ⟨q, ne⟩ := hm x hx
    obtain ⟨h1, u, h2, h3⟩ := h.own x q
    exact ⟨by rw [upd_ne ne]; exact h1, u, h2, h3.same sF⟩
/-- a callee's state, and back -/
theorem Ok.enter (h : Ok E P F H Ω) : Ok ⟨⟨F, H, P⟩, E.K⟩ P F H Ω := ⟨Same.refl P, h.pf, h.pd, h.pF, Same.refl F, fun a q z => absurd z q, fun a q => q, h.ex, h.own, h.nd⟩
theorem Ok.leave {P' F' H' : Hp} {Ω' : Om} (h : Ok E P F H Ω) (k : Ok ⟨⟨F, H, P⟩, E.K⟩ P' F' H' Ω') : Ok E P F' H' Ω' := by
  refine ⟨h.p0, fun b u q => k.pf b u (k.p0 b u q), fun x hx => k.p0.free (k.pd x hx), fun a q => k.pF a (fun z => q (k.p0.free z)), h.f0.trans k.f0, fun a q z => ?_, fun a q => h.dm a (k.dm a q), k.ex, k.own, k.nd⟩
  by_cases e : F a = none
  · exact h.dm a (k.fn a q e)
  · exact h.fn a e z
/-- one more thing that is left alone -/
theorem Ok.guard (h : Ok E P F H Ω) {p : Addr} {o : HO} (e : H p = none) : Ok E (upd P p o) F (upd H p o) Ω := by
  have nP := h.pf.free e
  have k := h.newX (o := o) e
  refine ⟨h.p0.trans fun b u q => by rw [upd_ne (ne_of_none q nP)]; exact q, fun b u q => ?_, fun x hx => ?_, fun a q => ?_, k.f0, k.fn, k.dm, k.ex, k.own, k.nd⟩
  · by_cases hb : b = p
    · rw [hb] at q ⊢; rw [upd_same] at q ⊢; exact q
    · rw [upd_ne hb] at q ⊢; exact h.pf b u q
  · obtain ⟨_, u, h2, _⟩ := h.own x hx
    rw [upd_ne (ne_of_none h2 e)]
    exact h.pd x hx
  · by_cases ha : a = p
    · rw [ha]; exact h.free e
    · rw [upd_ne ha] at q; exact h.pF a q
/-- the guarded thing is changed by its owner -/
theorem Ok.poke {p : Addr} {o o' : HO} (h : Ok E (upd P p o) F H Ω) (n0 : E.P0 p = none) (nF : F p = none) (np : P p = none) : Ok E (upd P p o') F (upd H p o') Ω := by
  have hp : H p = some o := h.pf p o upd_same
  refine ⟨fun b u q => ?_, fun b u q => ?_, fun x hx => ?_, fun b q => ?_, h.f0, h.fn, fun b q => ?_, fun b u q => ?_, fun x hx => ?_, h.nd⟩
  · have ne : b ≠ p := ne_of_none q n0
    have := h.p0 b u q
    rw [upd_ne ne] at this ⊢
    exact this
  · by_cases hb : b = p
    · rw [hb] at q ⊢; rw [upd_same] at q ⊢; exact q
    · have := h.pf b u (by rw [upd_ne hb] at q ⊢; exact q)
      rw [upd_ne hb]; exact this
  · have := h.pd x hx
    have ne : x.1 ≠ p := fun z => by rw [z, upd_same] at this; cases this
    rw [upd_ne ne] at this ⊢
    exact this
  · by_cases hb : b = p
    · rw [hb]; exact nF
    · exact h.pF b (by rw [upd_ne hb] at q ⊢; exact q)
  · by_cases hb : b = p
    · rw [hb, upd_same] at q; cases q
    · rw [upd_ne hb] at q; exact h.dm b q
  · rw [upd_ne (ne_of_none q nF)]; exact h.ex b u q
  · obtain ⟨h1, u, h2, h3⟩ := h.own x hx
    have := h.pd x hx
    have ne : x.1 ≠ p := fun z => by rw [z, upd_same] at this; cases this
    exact ⟨h1, u, by rw [upd_ne ne]; exact h2, h3⟩
/-- no longer guarded: frozen, a cell, or let go -/
theorem Ok.letP {P' : Hp} (h : Ok E P' F H Ω) (s0 : Same E.P0 P) (s : Same P P') : Ok E P F H Ω := ⟨s0, fun b u q => h.pf b u (s b u q), fun x hx => s.free (h.pd x hx), fun a q => h.pF a (fun z => q (s.free z)), h.f0, h.fn, h.dm, h.ex, h.own, h.nd⟩
/-- what was guarded becomes a cell -/
theorem Ok.adopt {p : Addr} {o : HO} {c : OC} (h : Ok E (upd P p o) F H Ω) (s0 : Same E.P0 P) (np : P p = none) (r : RpO E.K F o c) : Ok E P F H ((p, c) :: Ω) := by
  have sP : Same P (upd P p o) := fun b u q => by rw [upd_ne (ne_of_none q np)]; exact q
  have k := h.letP s0 sP
  have hp : H p = some o := h.pf p o upd_same
  have nF : F p = none := h.pF p (by rw [upd_same]; exact fun z => nomatch z)
  have ne : ∀ x ∈ Ω, x.1 ≠ p := fun x hx z => by
    have := h.pd x hx
    rw [z, upd_same] at this
    cases this
  refine ⟨k.p0, k.pf, fun x hx => ?_, k.pF, k.f0, k.fn, k.dm, k.ex, fun x hx => ?_, ?_⟩
  · rcases List.mem_cons.mp hx with q | q
    · rw [q]; exact np
    · exact k.pd x q
  · rcases List.mem_cons.mp hx with q | q
    · rw [q]; exact ⟨nF, o, hp, r⟩
    · exact k.own x q
  · rw [List.map_cons]
    refine List.nodup_cons.mpr ⟨fun z => ?_, k.nd⟩
    obtain ⟨x, hx, e⟩ := List.mem_map.mp z
    exact ne x hx e
/-- what was guarded becomes data -/
theorem Ok.adoptF {p : Addr} {o : HO} (h : Ok E (upd P p o) F H Ω) (s0 : Same E.P0 P) (np : P p = none) (n0 : E.H0 p = none) : Ok E P (upd F p o) H Ω ∧ Same F (upd F p o) := by
  have sP : Same P (upd P p o) := fun b u q => by rw [upd_ne (ne_of_none q np)]; exact q
  have k := h.letP s0 sP
  have nF : F p = none := h.pF p (by rw [upd_same]; exact fun z => nomatch z)
  refine k.frz (c := .raw o) (h.pf p o upd_same) n0 nF np (fun x hx => ⟨hx, fun z => ?_⟩) k.nd
  have := h.pd x hx
  rw [z, upd_same] at this
  cases this
end
end Z
/-! Z2: calls of defs where no repr is under way (A.guards = some []). -/
namespace Z
open PySem PySem.Spec PyProof.Rows L2
structure FnG (P : Program) (w : World) (K : Frag) (mg : Str → Option Value) (base : Heap) (CX : CXT) (k : Nat) (f : Addr) (fd : FuncData) (ps : List Str) (sp : Sp) : Prop where
  len : ∀ vs H Q E, sp vs H Q E → vs.length = ps.length
  go : ∀ (A : Around) (outer : List Env) (s : Shared) (H : Hp) (args : Args) (us : List Value) (vs : List V) (Q : VK) (E : XK),
    Room k A → A.guards = some [] → Env0 P w K mg base A outer s H → BindsTo s fd args (ps.zip us) → Vals vs us → sp vs H Q E →
    codeAny (model P w) A (.call (.ref f) args) (CR CX outer P w H s Q E) s
section
variable {P : Program} {w : World} {K : Frag} {mg : Str → Option Value} {base : Heap} {CX : CXT} {k : Nat} {f : Addr} {fd : FuncData} {ps : List Str} {sp : Sp}
theorem FnG.up {j : Nat} (F : FnG P w K mg base CX j f fd ps sp) (h : j ≤ k) : FnG P w K mg base CX k f fd ps sp :=
  ⟨F.len, fun A outer s H args us vs Q E hr => F.go A outer s H args us vs Q E (hr.mono h)⟩
/-- a def by its body -/
theorem fnG_of {name qual : Str} {params : Arguments} {body : List Stmt} {scope : Scope} {dV kV doc pm cdv ct oc : Value} {an od : Option Addr} {osl : Array (Option Value)} {N : List Str}
    (lk : K.lookup f = some ⟨oc, od, .func (PySem.W.fnOf name qual params body scope dV kV doc pm an cdv ct), osl⟩) (hcd : PySem.W.codeIn K cdv qual = true) (S : FnScope N ps scope)
    (len : ∀ vs H Q E, sp vs H Q E → vs.length = ps.length)
    (hbody : ∀ (A : Around) (outer : List Env) (s : Shared) (H : Hp) (vs : List V) (Q : VK) (E : XK), A.guards = some [] → Room k (A.deeper (envOfC qual scope s.heap.objs.size f cdv)) → sp vs H Q E →
      ∃ t, PSs (cxOf CX P w K mg base N qual scope f cdv A outer s H E) body t ∧ t { nx := fun _ H' => Q .non H', rt := Q } (start N vs) H) :
    FnG P w K mg base CX (k + 1) f (PySem.W.fnOf name qual params body scope dV kV doc pm an cdv ct) ps sp := by
  refine ⟨len, fun A outer s H args us vs Q E hr hgd e0 hb rv hsp => ?_⟩
  have old := fun b o e => (e0.bs b o e).1
  have KX : K.In s.heap := e0.mod.kin.keeps old
  have lim : s.heap.NoLimit := e0.mod.nolimit.keeps old
  have hkind : ∀ y ∈ ps.zip us, scope.names.lookup y.1 = some .local ∨ (scope.names.lookup y.1 = some .cell ∧ ((cellsFrom (s.heap.objs.size + 1) scope.names []).lookup y.1).isSome = true) := by
    rintro ⟨n, v⟩ hy
    exact (S.par n (List.of_mem_zip hy).1).elim .inl fun q => .inr ⟨q, PySem.W.cellsFrom_some _ _ _ (.inl q)⟩
  refine codeAny_call_function hr.depth (KX _ _ lk) rfl S.co S.gen rfl (PySem.W.codeRec_of KX hcd) (hb _ _ _ _ (wpAny_newFunctionEnv_cells S.kind hkind fun env he s1 x => ?_))
  cases he
  refine ⟨lim.keeps x.toInCall.keep, codeAny_func ?_⟩
  obtain ⟨t, ht, hq⟩ := hbody A outer s H vs Q E hgd (hr.deeper _) hsp
  have I0 := inv_start (CX := CX) (P := P) (w := w) (mg := mg) (E := E) S hr.hd e0 (len _ _ _ _ hsp) rv x
  refine wpAny_mono (ht.run [] s1 (start N vs) H _ I0 hq) (fun fl s' hs => ?_) fun _ _ z => z
  cases fl with
  | ret u => obtain ⟨v, σ', H', J, rv, q⟩ := hs; exact ⟨v, H', J.os, J.bare, J.base, J.hok, rv, q⟩
  | next => obtain ⟨σ', H', J, q⟩ := hs; exact ⟨.non, H', J.os, J.bare, J.base, J.hok, rfl, q⟩
  | brk => obtain ⟨_, _, _, q⟩ := hs; exact q.elim
  | cont => obtain ⟨_, _, _, q⟩ := hs; exact q.elim
end
section
variable {X : Cx} {CX : CXT} {k : Nat} {f : Addr} {fd : FuncData} {ps ks : List Str} {sp : Sp} {E : L2.St → XK} {x : Str} {p pos : Pos} {e : Expr} {es : List Expr} {kws : List Keyword} {t tk : TA}
/-- what a callee raises, at the caller's slots, reaches what this body wants -/
def PassAt (CX : CXT) (X : Cx) (σ : L2.St) (E : XK) : Prop := ∀ (pins : List (Addr × Obj)) (H : Hp) (s : Shared) (e : Value) (s' : Shared), Inv X pins σ H s → CX X.stack H s E e s' → X.xe e s'
theorem passAt0 {σ : L2.St} : PassAt CX0 X σ E0 := fun _ _ _ _ _ _ h => h.elim
theorem runG {pins : List (Addr × Obj)} {σ : L2.St} {H : Hp} {s : Shared} {Q : VK} {args : Args} {us : List Value} {vs : List V} (F : FnG X.prog X.w X.K X.mg X.base CX k f fd ps sp) (hr : Room k X.A) (hgd : X.A.guards = some []) (hx : PassAt CX X σ (E σ))
    (I : Inv X pins σ H s) (hb : us.length = ps.length → BindsTo s fd args (ps.zip us)) (r : Vals vs us) (h : sp vs H Q (E σ)) :
    codeAny (model X.prog X.w) X.A (.call (.ref f) args) (fun r s' => match r with | .ok (.ret u) => EP X pins σ Q u s' | .ok _ => False | .error e => X.xe e s') s := by
  have hl : us.length = ps.length := by rw [← r.length]; exact F.len _ _ _ _ h
  refine codeAny_mono (F.go X.A X.stack s H args us vs Q (E σ) hr hgd I.env0 (hb hl) r h) fun r s' hq => ?_
  match r, hq with
  | .error e, hq => exact hx pins H s e s' I hq
  | .ok (.ret u), hq => exact I.after hq
  | .ok .next, hq => exact hq
  | .ok .brk, hq => exact hq
  | .ok .cont, hq => exact hq
theorem wp_of_code {A : Around} {u : Value} {us : List Value} {kw : List (Str × Value)} {s : Shared} {Q : Value → Shared → Prop} {M : Model} {E' : Value → Shared → Prop}
    (h : codeAny M A (.call u ⟨us, kw⟩) (fun r s' => match r with | .ok (.ret u) => Q u s' | .ok _ => False | .error e => E' e s') s) : wpAny M A (call u us kw) Q E' s := by
  refine wpAny_call (codeAny_mono h fun r s' hq => ?_)
  match r, hq with
  | .error e, hq => exact hq
  | .ok (.ret u), hq => exact hq
  | .ok .next, hq => exact hq.elim
  | .ok .brk, hq => exact hq.elim
  | .ok .cont, hq => exact hq.elim
def tCallG (sp : Sp) (E : L2.St → XK) (t : TA) : TE := fun σ H Q => t σ H fun vs H1 => sp vs H1 Q (E σ)
def tCallGK (sp : Sp) (gV : List V → List V → List V) (E : L2.St → XK) (t tk : TA) : TE := fun σ H Q => t σ H fun vs H1 => tk σ H1 fun zs H2 => sp (gV vs zs) H2 Q (E σ)
/-- f(e, ..) -/
theorem pg_call (F : FnG X.prog X.w X.K X.mg X.base CX k f fd ps sp) (hr : Room k X.A) (hgd : X.A.guards = some []) (hg : Gl X x) (hm : X.mg x = some (.ref f)) (hk : PySem.W.keepIn X.K (.ref f) = true)
    (hb : Binds X.K fd ps []) (hx : ∀ σ, PassAt CX X σ (E σ)) (ha : PA X (e :: es) t) (hdb : (x == ("__debug__" : Str)) = false := by decide)
    (he : starEach (e :: es) X.env = (false, eval e X.env) :: starEach es X.env := by rfl) (hpl : (backTo pos (starEach es X.env)).any (·.1) = false := by rfl) :
    PE X (.Call (.Name x p) (e :: es) [] pos) (tCallG sp E t) := by
  refine ⟨fun pins s σ H Q I h => wpAny_Call_Name_kw (ld_glob I hg hm (PySem.W.callWith_K (h₀ := X.base) I.ok.mod.kin hk
    (thn (ha.run pos pins s σ H _ I h) fun us s1 ⟨vs, H1, I1, r, q⟩ => ⟨I1.kIn, ?_⟩) he hpl) hdb)⟩
  refine wp_of_code (runG F hr hgd (hx σ) I1 (fun hl => ?_) r q)
  have b := hb s1 us I1.kIn (by rw [List.append_nil]; exact hl)
  rw [List.append_nil] at b
  exact b
/-- f() -/
theorem pg_call0 (F : FnG X.prog X.w X.K X.mg X.base CX k f fd ps sp) (hr : Room k X.A) (hgd : X.A.guards = some []) (hg : Gl X x) (hm : X.mg x = some (.ref f)) (hk : PySem.W.keepIn X.K (.ref f) = true)
    (hb : Binds X.K fd ps []) (hx : ∀ σ, PassAt CX X σ (E σ)) (hdb : (x == ("__debug__" : Str)) = false := by decide) : PE X (.Call (.Name x p) [] [] pos) (tCallG sp E tNil) := by
  refine ⟨fun pins s σ H Q I h => wpAny_Call_Name_kw (ld_glob I hg hm (PySem.W.callWith_K0 I.kIn hk ?_) hdb)⟩
  exact wp_of_code (runG (us := []) F hr hgd (hx σ) I (fun hl => hb s [] I.kIn hl) .nil h)
end
end Z
/-! Z3: expressions over data: what is to hold (AE, AT, AA), and that it is enough (JE, JT, JA). -/
namespace Z
open PySem PySem.Spec PyProof.Rows L2
abbrev PhiE := SV → Om → Prop
abbrev AE := Rho → Om → PhiE → Prop
abbrev AT := Rho → Om → (Bool → Om → Prop) → Prop
abbrev AA := Rho → Om → (List SV → Om → Prop) → Prop
abbrev AR := SV → SV → Om → PhiE → Prop
abbrev AC := List SV → Om → PhiE → Prop
abbrev AM := SV → List SV → Om → PhiE → Prop
/-- what is known behind a step -/
abbrev Aft (E : En) (P F : Hp) (Φ : PhiE) (Q : VK) : Prop := ∀ {v : V} {sv : SV} {Ω' : Om} {F' H' : Hp}, Φ sv Ω' → Ok E P F' H' Ω' → Same F F' → Rp E.K F' v sv → Q v H'
structure SnE (E : En) (te : TE) (a : AE) : Prop where
  go : ∀ {ρ : Rho} {Ω : Om} {Φ : PhiE}, a ρ Ω Φ → ∀ {P F H : Hp} {σ : L2.St} {Q : VK}, Ok E P F H Ω → RpE E.K F σ ρ → Aft E P F Φ Q → te σ H Q
structure SnT (E : En) (te : TT) (a : AT) : Prop where
  go : ∀ {ρ : Rho} {Ω : Om} {Φ : Bool → Om → Prop}, a ρ Ω Φ → ∀ {P F H : Hp} {σ : L2.St} {Q : Bool → Hp → Prop}, Ok E P F H Ω → RpE E.K F σ ρ →
  (∀ {b : Bool} {Ω' : Om} {F' H' : Hp}, Φ b Ω' → Ok E P F' H' Ω' → Same F F' → Q b H') → te σ H Q
structure SnA (E : En) (te : TA) (a : AA) : Prop where
  go : ∀ {ρ : Rho} {Ω : Om} {Φ : List SV → Om → Prop}, a ρ Ω Φ → ∀ {P F H : Hp} {σ : L2.St} {Q : List V → Hp → Prop}, Ok E P F H Ω → RpE E.K F σ ρ →
  (∀ {vs : List V} {svs : List SV} {Ω' : Om} {F' H' : Hp}, Φ svs Ω' → Ok E P F' H' Ω' → Same F F' → Paired (Rp E.K F') vs svs → Q vs H') → te σ H Q
structure SnR (E : En) (r : R2) (ar : AR) : Prop where
  go : ∀ {x y : SV} {Ω : Om} {Φ : PhiE}, ar x y Ω Φ → ∀ {P F H : Hp} {vx vy : V} {Q : VK}, Ok E P F H Ω → Rp E.K F vx x → Rp E.K F vy y → Aft E P F Φ Q → r vx vy H Q
structure SnU (E : En) (r : V → Hp → VK → Prop) (ar : SV → Om → PhiE → Prop) : Prop where
  go : ∀ {x : SV} {Ω : Om} {Φ : PhiE}, ar x Ω Φ → ∀ {P F H : Hp} {vx : V} {Q : VK}, Ok E P F H Ω → Rp E.K F vx x → Aft E P F Φ Q → r vx H Q
structure SnC (E : En) (r : List V → Hp → VK → Prop) (ac : AC) : Prop where
  go : ∀ {xs : List SV} {Ω : Om} {Φ : PhiE}, ac xs Ω Φ → ∀ {P F H : Hp} {vs : List V} {Q : VK}, Ok E P F H Ω → Paired (Rp E.K F) vs xs → Aft E P F Φ Q → r vs H Q
structure SnM (E : En) (r : V → List V → Hp → VK → Prop) (am : AM) : Prop where
  go : ∀ {x : SV} {xs : List SV} {Ω : Om} {Φ : PhiE}, am x xs Ω Φ → ∀ {P F H : Hp} {v : V} {vs : List V} {Q : VK}, Ok E P F H Ω → Rp E.K F v x → Paired (Rp E.K F) vs xs → Aft E P F Φ Q → r v vs H Q
abbrev enX (X : Cx) (G : Gn) : En := ⟨G, X.K⟩
def JE (X : Cx) (G : Gn) (e : Expr) (a : AE) : Prop := ∃ te, PE X e te ∧ SnE (enX X G) te a
def JT (X : Cx) (G : Gn) (e : Expr) (a : AT) : Prop := ∃ te, PT X e te ∧ SnT (enX X G) te a
def JW (X : Cx) (G : Gn) (e : Expr) (a : AT) : Prop := ∃ te, PW X e te ∧ SnT (enX X G) te a
def JA (X : Cx) (G : Gn) (es : List Expr) (a : AA) : Prop := ∃ te, PA X es te ∧ SnA (enX X G) te a
def JK (X : Cx) (G : Gn) (es : List Keyword) (a : AA) : Prop := ∃ te, PK X es te ∧ SnA (enX X G) te a
def JOp (X : Cx) (G : Gn) (f : Value → Value → Sem Value) (ar : AR) : Prop := ∃ r, OpR X f r ∧ SnR (enX X G) r ar
def JUn (X : Cx) (G : Gn) (f : Value → Sem Value) (ar : SV → Om → PhiE → Prop) : Prop := ∃ r, UnR X f r ∧ SnU (enX X G) r ar
def JIx (X : Cx) (G : Gn) (ar : AR) : Prop := ∃ r, IxR X r ∧ SnR (enX X G) r ar
def JC (X : Cx) (G : Gn) (f : Value) (ac : AC) : Prop := ∃ r, CallR X f r ∧ SnC (enX X G) r ac
def JM (X : Cx) (G : Gn) (id : String) (am : AM) : Prop := ∃ r, MtR X id r ∧ SnM (enX X G) r am
/-! ### modes of new lists: data at once, or a cell of the def's own -/
abbrev Mode := Option (Addr → Prop)
def dataOf : List SV → Option (List PyData)
  | [] => some []
  | .d x :: r => match dataOf r with | some ds => some (x :: ds) | none => none
  | _ :: _ => none
def mkL (xs : List SV) : OC := match dataOf xs with | some ds => .lst ds | none => .lx xs
def newL (m : Mode) (ds : List PyData) (Ω : Om) (Φ : PhiE) : Prop := match m with
  | none => Φ (.d (.list ds)) Ω
  | some Fr => ∀ a, Fr a → Φ (.r (.ref a)) ((a, .lst ds) :: Ω)
def newX (m : Mode) (xs : List SV) (Ω : Om) (Φ : PhiE) : Prop := match m with
  | none => match dataOf xs with | some ds => Φ (.d (.list ds)) Ω | none => False
  | some Fr => ∀ a, Fr a → Φ (.r (.ref a)) ((a, mkL xs) :: Ω)
theorem dataOf_ok {K : Frag} {F : Hp} : ∀ {xs : List SV} {ds : List PyData} {vs : List V}, dataOf xs = some ds → Paired (Rp K F) vs xs → DqAll K F vs ds
  | [], ds, vs, h, r => by
    cases h
    cases r
    exact .nil
  | .d x :: xs, ds, vs, h, r => by
    cases r with
    | cons r1 r2 =>
      unfold dataOf at h
      cases e : dataOf xs with
      | none => rw [e] at h; cases h
      | some ds' =>
        rw [e] at h
        cases h
        exact .cons r1 (dataOf_ok e r2)
  | .l x :: xs, ds, vs, h, r => by cases h
  | .r x :: xs, ds, vs, h, r => by cases h
theorem mkL_ok {K : Frag} {F : Hp} {xs : List SV} {vs : List V} (r : Paired (Rp K F) vs xs) : RpO K F (.lst vs) (mkL xs) := by
  unfold mkL
  split
  · rename_i ds e; exact dataOf_ok e r
  · exact r
/-- the mode fits the entry -/
def MOk (E : En) (m : Mode) : Prop := ∀ Fr, m = some Fr → ∀ a, E.H0 a = none → Fr a
theorem mok0 {E : En} : MOk E none := fun _ h => by cases h
theorem mok1 {E : En} : MOk E (some fun a => E.H0 a = none) := fun _ h a e => by cases h; exact e
section
variable {E : En} {P F H : Hp} {Ω : Om} {Φ : PhiE} {Q : VK} {m : Mode}
theorem newL_ok (hm : MOk E m) (o : Ok E P F H Ω) {ds : List PyData} {vs : List V} (r : DqAll E.K F vs ds) (h : newL m ds Ω Φ) (k : Aft E P F Φ Q) {p : Addr} (hp : H p = none) : Q (.ref p) (upd H p (.lst vs)) := by
  cases m with
  | none =>
    obtain ⟨o1, s1⟩ := o.newF (o := .lst vs) hp
    exact k h o1 s1 (Dq.lst upd_same (dqa_same s1 _ _ r))
  | some Fr => exact k (h p (hm _ rfl p (o.dm p hp))) (o.newO hp (c := .lst ds) r) (Same.refl F) rfl
theorem newX_ok (hm : MOk E m) (o : Ok E P F H Ω) {xs : List SV} {vs : List V} (r : Paired (Rp E.K F) vs xs) (h : newX m xs Ω Φ) (k : Aft E P F Φ Q) {p : Addr} (hp : H p = none) : Q (.ref p) (upd H p (.lst vs)) := by
  cases m with
  | none =>
    have h' : (match dataOf xs with | some ds => Φ (.d (.list ds)) Ω | none => False) := h
    split at h'
    · rename_i ds e
      obtain ⟨o1, s1⟩ := o.newF (o := .lst vs) hp
      exact k h' o1 s1 (Dq.lst upd_same (dqa_same s1 _ _ (dataOf_ok e r)))
    · exact h'.elim
  | some Fr => exact k (h p (hm _ rfl p (o.dm p hp))) (o.newO hp (mkL_ok r)) (Same.refl F) rfl
end
/-! ### what is read as a list of data -/
def rdL (x : SV) (Ω : Om) (k : List PyData → Prop) : Prop := match x with
  | .d (.list ds) => k ds
  | .r (.ref a) => ∃ ds f, At Ω a (.lst ds) f ∧ k ds
  | _ => False
def rdS (x : SV) (Ω : Om) (k : List PyData → Prop) : Prop := match x with
  | .d (.list ds) => k ds
  | .d (.tuple ds) => k ds
  | .l ds => k ds
  | .r (.ref a) => ∃ ds f, At Ω a (.lst ds) f ∧ k ds
  | _ => False
def rdD (x : SV) (Ω : Om) (k : PyData → Prop) : Prop := match x with
  | .d d => k d
  | .l ds => k (.list ds)
  | .r (.ref a) => ∃ ds f, At Ω a (.lst ds) f ∧ k (.list ds)
  | _ => False
section
variable {E : En} {P F H : Hp} {Ω : Om} {x : SV} {v : V}
theorem rdL_ok {k : List PyData → Prop} (h : rdL x Ω k) (o : Ok E P F H Ω) (r : Rp E.K F v x) : ∃ a vs ds, v = .ref a ∧ H a = some (.lst vs) ∧ DqAll E.K F vs ds ∧ k ds := by
  unfold rdL at h
  split at h
  · obtain ⟨a, xs, e, hF, ha⟩ := dql r
    exact ⟨a, xs, _, e, o.ex _ _ hF, ha, h⟩
  · obtain ⟨ds, f, t, hk⟩ := h
    obtain ⟨vs, h1, h2⟩ := o.lst t
    exact ⟨_, vs, ds, r, h1, h2, hk⟩
  · exact h.elim
theorem rdS_ok {k : List PyData → Prop} (h : rdS x Ω k) (o : Ok E P F H Ω) (r : Rp E.K F v x) : ∃ a vs ds, v = .ref a ∧ (SqL E.K H a vs ∨ SqT E.K H a vs) ∧ DqAll E.K F vs ds ∧ k ds := by
  unfold rdS at h
  split at h
  · obtain ⟨a, xs, e, hF, ha⟩ := dql r
    exact ⟨a, xs, _, e, Or.inl (SqL.of (o.ex _ _ hF)), ha, h⟩
  · obtain ⟨a, xs, e, hF, ha⟩ := dqt r
    exact ⟨a, xs, _, e, Or.inr (sqt_same o.ex hF), ha, h⟩
  · obtain ⟨a, xs, e, hF, ha⟩ := r
    exact ⟨a, xs, _, e, Or.inl (o.ex.seq hF), ha, h⟩
  · obtain ⟨ds, f, t, hk⟩ := h
    obtain ⟨vs, h1, h2⟩ := o.lst t
    exact ⟨_, vs, ds, r, Or.inl (SqL.of h1), h2, hk⟩
  · exact h.elim
theorem rdD_ok2 {k : PyData → Prop} (h : rdD x Ω k) (o : Ok E P F H Ω) (r : Rp E.K F v x) : ∃ d, (d.hasDict = false → Dp E.K H v d) ∧ (hasList d = false → Dq E.K H v d) ∧ k d := by
  unfold rdD at h
  split at h
  · exact ⟨_, Dq.dp _ _ (dq_same o.ex _ _ r), fun _ => dq_same o.ex _ _ r, h⟩
  · obtain ⟨a, xs, rfl, hF, ha⟩ := r
    exact ⟨_, fun n => Dp.lst (o.ex.seq hF) (DqAll.dp _ _ (dqa_same o.ex _ _ ha) (by rw [PyData.hasDict] at n; exact n)), fun n => by simp [hasList] at n, h⟩
  · obtain ⟨ds, f, t, hk⟩ := h
    obtain ⟨vs, h1, h2⟩ := o.lst t
    cases r
    exact ⟨_, fun n => Dp.lst (SqL.of h1) (DqAll.dp _ _ (dqa_same o.ex _ _ h2) (by rw [PyData.hasDict] at n; exact n)), fun n => by simp [hasList] at n, hk⟩
  · exact h.elim
theorem noDict_of_shaped {d : PyData} (h : SeqAt.shaped d = true) : d.hasDict = false := PyData.hasDict_of_canLay d (SeqAt.canLay_of_shaped h)
end
/-! ### names, constants -/
section
variable {X : Cx} {G : Gn} {e a b : Expr} {aa ab : AE} {at_ bt : AT} {ta : AA} {pos : Pos} {m : Mode}
def aVar (i : Nat) : AE := fun ρ Ω Φ => match ρ[i]? with
  | some (some x) => Φ x Ω
  | _ => False
theorem je_var {i : Nat} (h : PE X e (tVar i)) : JE X G e (aVar i) := by
  refine ⟨_, h, ⟨fun {ρ Ω Φ} h {P F H σ Q} o r k => ?_⟩⟩
  unfold aVar at h
  split at h
  · rename_i x ex
    obtain ⟨v, h1, h2⟩ := rpe_get r ex
    exact ⟨v, h1, k h o (Same.refl F) h2⟩
  · exact h.elim
def aC (x : SV) : AE := fun _ Ω Φ => Φ x Ω
theorem je_c {v : V} {x : SV} (h : PE X e (tC v)) (hx : ∀ F, Rp X.K F v x) : JE X G e (aC x) := ⟨_, h, ⟨fun {ρ Ω Φ} h {P F H σ Q} o r k => k h o (Same.refl F) (hx F)⟩⟩
theorem je_int {i : Int} {j pos} : JE X G (.Constant (.int i) j pos) (aC (.d (.int i))) := je_c pe_int fun _ => .int i
theorem je_bl {c : Bool} {j pos} : JE X G (.Constant (.bool c) j pos) (aC (.d (.bool c))) := je_c pe_bl fun _ => .bl c
theorem je_non {j pos} : JE X G (.Constant .none j pos) (aC (.d .none)) := je_c pe_non fun _ => .non
theorem je_str {x j pos} : JE X G (.Constant (.str x) j pos) (aC (.d (.str x))) := je_c pe_str fun _ => .str x
/-- a built-in's name, a def, a class: as it is -/
theorem je_raw {v : V} (h : PE X e (tC v)) : JE X G e (aC (.r v)) := je_c h fun _ => rfl
/-! ### operators -/
def aBin (ar : AR) (a b : AE) : AE := fun ρ Ω Φ => a ρ Ω fun x Ω1 => b ρ Ω1 fun y Ω2 => ar x y Ω2 Φ
theorem bin_ok {E : En} {ta tb : TE} {r : R2} {ar : AR} (h1 : SnE E ta aa) (h2 : SnE E tb ab) (h3 : SnR E r ar) : SnE E (tOp r ta tb) (aBin ar aa ab) := ⟨fun {ρ Ω Φ} h {P F H σ Q} o rp k =>
  h1.go h o rp fun {v sv Ω1 F1 H1} q o1 s1 r1 => h2.go q o1 (rpe_same s1 rp) fun {u su Ω2 F2 H2} q2 o2 s2 r2 => h3.go q2 o2 (r1.same s2) r2 fun q3 o3 s3 r3 => k q3 o3 ((s1.trans s2).trans s3) r3⟩
theorem je_bin {op : Operator} {ar : AR} (ho : JOp X G (binaryOp op) ar) (ha : JE X G a aa) (hb : JE X G b ab) : JE X G (.BinOp a op b pos) (aBin ar aa ab) := by
  obtain ⟨r, h1, h2⟩ := ho
  obtain ⟨t, h3, h4⟩ := ha
  obtain ⟨u, h5, h6⟩ := hb
  exact ⟨_, pe_op h1 h3 h5, bin_ok h4 h6 h2⟩
theorem je_cmp {op : CmpOp} {ar : AR} (ho : JOp X G (compareOp op) ar) (ha : JE X G a aa) (hb : JE X G b ab) (hm : behindInMarks op b = false) : JE X G (.Compare a [op] [b] pos) (aBin ar aa ab) := by
  obtain ⟨r, h1, h2⟩ := ho
  obtain ⟨t, h3, h4⟩ := ha
  obtain ⟨u, h5, h6⟩ := hb
  exact ⟨_, pe_cmpR h1 h3 h5 hm, bin_ok h4 h6 h2⟩
def aUn (ar : SV → Om → PhiE → Prop) (a : AE) : AE := fun ρ Ω Φ => a ρ Ω fun x Ω1 => ar x Ω1 Φ
theorem je_un {op : UnaryOp} {ar : SV → Om → PhiE → Prop} (ho : JUn X G (unaryOp op) ar) (ha : JE X G a aa) : JE X G (.UnaryOp op a pos) (aUn ar aa) := by
  obtain ⟨r, h1, h2⟩ := ho
  obtain ⟨t, h3, h4⟩ := ha
  exact ⟨_, pe_un h1 h3, ⟨fun {ρ Ω Φ} h {P F H σ Q} o rp k => h4.go h o rp fun q o1 s1 r1 => h2.go q o1 r1 fun q3 o3 s3 r3 => k q3 o3 (s1.trans s3) r3⟩⟩
def arI (C : Int → Int → Prop) (g : Int → Int → PyData) : AR := fun x y Ω Φ => match x, y with
  | .d (.int i), .d (.int j) => C i j ∧ Φ (.d (g i j)) Ω
  | _, _ => False
def arI0 (g : Int → Int → PyData) : AR := fun x y Ω Φ => match x, y with
  | .d (.int i), .d (.int j) => Φ (.d (g i j)) Ω
  | _, _ => False
theorem arI_ok {E : En} {C : Int → Int → Prop} {g : Int → Int → PyData} {g' : Int → Int → V} (hg : ∀ i j F, Dq E.K F (g' i j) (g i j)) : SnR E (rI C g') (arI C g) := by
  refine ⟨fun {x y Ω Φ} h {P F H vx vy Q} o r1 r2 k => ?_⟩
  unfold arI at h
  split at h
  · exact ⟨_, _, dqi r1, dqi r2, h.1, k h.2 o (Same.refl F) (hg _ _ F)⟩
  · exact h.elim
theorem arI0_ok {E : En} {g : Int → Int → PyData} {g' : Int → Int → V} (hg : ∀ i j F, Dq E.K F (g' i j) (g i j)) : SnR E (rI0 g') (arI0 g) := by
  refine ⟨fun {x y Ω Φ} h {P F H vx vy Q} o r1 r2 k => ?_⟩
  unfold arI0 at h
  split at h
  · exact ⟨_, _, dqi r1, dqi r2, k h o (Same.refl F) (hg _ _ F)⟩
  · exact h.elim
abbrev arSub : AR := arI0 fun i j => .int (i - j)
abbrev arMul : AR := arI CMulX fun i j => .int (i * j)
abbrev arDiv : AR := arI CDivW fun i j => .int (i / j)
abbrev arMod : AR := arI (fun _ j => 0 < j) fun i j => .int (i % j)
abbrev arPow : AR := arI CPow fun i j => .int (i ^ j.toNat)
abbrev arLt : AR := arI0 fun i j => .bool (decide (i < j))
abbrev arLe : AR := arI0 fun i j => .bool (decide (i ≤ j))
abbrev arGt : AR := arI0 fun i j => .bool (decide (j < i))
abbrev arGe : AR := arI0 fun i j => .bool (decide (j ≤ i))
theorem jo_sub : JOp X G (binaryOp .Sub) arSub := ⟨_, op_sub, arI0_ok fun _ _ _ => .int _⟩
theorem jo_mulI : JOp X G (binaryOp .Mult) arMul := ⟨_, op_mulX, arI_ok fun _ _ _ => .int _⟩
theorem jo_div : JOp X G (binaryOp .FloorDiv) arDiv := ⟨_, op_fdivW, arI_ok fun _ _ _ => .int _⟩
theorem jo_mod : JOp X G (binaryOp .Mod) arMod := ⟨_, op_mod, arI_ok fun _ _ _ => .int _⟩
theorem jo_pow : JOp X G (binaryOp .Pow) arPow := ⟨_, op_pow, arI_ok fun _ _ _ => .int _⟩
theorem jo_lt : JOp X G (compareOp .Lt) arLt := ⟨_, op_lt, arI0_ok fun _ _ _ => .bl _⟩
theorem jo_le : JOp X G (compareOp .LtE) arLe := ⟨_, op_le, arI0_ok fun _ _ _ => .bl _⟩
theorem jo_gt : JOp X G (compareOp .Gt) arGt := ⟨_, op_gt, arI0_ok fun _ _ _ => .bl _⟩
theorem jo_ge : JOp X G (compareOp .GtE) arGe := ⟨_, op_ge, arI0_ok fun _ _ _ => .bl _⟩
def arNeg (x : SV) (Ω : Om) (Φ : PhiE) : Prop := match x with
  | .d (.int i) => Φ (.d (.int (-i))) Ω
  | _ => False
theorem ju_neg : JUn X G (unaryOp .USub) arNeg := by
  refine ⟨_, un_neg, ⟨fun {x Ω Φ} h {P F H vx Q} o r k => ?_⟩⟩
  unfold arNeg at h
  split at h
  · exact ⟨_, dqi r, k h o (Same.refl F) (.int _)⟩
  · exact h.elim
/-- a + b: ints, tuples, texts, lists -/
def arAdd (m : Mode) : AR := fun x y Ω Φ => match x, y with
  | .d (.int i), .d (.int j) => Φ (.d (.int (i + j))) Ω
  | .d (.tuple xs), .d (.tuple ys) => xs.length + ys.length ≤ sizeLine ∧ Φ (.d (.tuple (xs ++ ys))) Ω
  | .d (.str s), .d (.str t) => s.length + t.length ≤ sizeLine ∧ Φ (.d (.str (s ++ t))) Ω
  | x, y => rdL x Ω fun xs => rdL y Ω fun ys => xs.length + ys.length ≤ sizeLine ∧ newL m (xs ++ ys) Ω Φ
theorem dqa_app {K : Frag} {F : Hp} : ∀ {vs ws : List V} {ds es : List PyData}, DqAll K F vs ds → DqAll K F ws es → DqAll K F (vs ++ ws) (ds ++ es)
  | _, _, _, _, .nil, h => h
  | _, _, _, _, .cons r t, h => .cons r (dqa_app t h)
theorem dqa_nil {K : Frag} {F : Hp} {vs : List V} (h : DqAll K F vs []) : vs = [] := by cases h; rfl
theorem jo_add (hm : MOk (enX X G) m) : JOp X G (binaryOp .Add) (arAdd m) := by
  refine ⟨_, OpR.or op_add (OpR.or op_catA (OpR.or op_add_str op_cat)), ⟨fun {x y Ω Φ} h {P F H vx vy Q} o r1 r2 k => ?_⟩⟩
  unfold arAdd at h
  split at h
  · exact Or.inl ⟨_, _, dqi r1, dqi r2, k h o (Same.refl F) (.int _)⟩
  · rename_i xs ys
    obtain ⟨a, vs, rfl, ha, da⟩ := dqt r1
    obtain ⟨b, ws, rfl, hb, db⟩ := dqt r2
    have e1 := dqa_len da
    have e2 := dqa_len db
    refine Or.inr (Or.inl ⟨a, b, vs, ws, rfl, rfl, sqt_same o.ex ha, sqt_same o.ex hb, by rw [e1, e2]; exact h.1, fun z => ?_, fun z1 z2 => ?_, fun z1 z2 p hp => ?_⟩)
    · subst z
      cases da
      exact k h.2 o (Same.refl F) r2
    · subst z2
      cases db
      have h2 := h.2
      rw [List.append_nil] at h2
      exact k h2 o (Same.refl F) r1
    · obtain ⟨o1, s1⟩ := o.newF (o := .tup (vs ++ ws)) hp
      exact k h.2 o1 s1 (Dq.tup (SqT.of upd_same) (dqa_same s1 _ _ (dqa_app da db)))
  · exact Or.inr (Or.inr (Or.inl ⟨_, _, dqs r1, dqs r2, h.1, k h.2 o (Same.refl F) (.str _)⟩))
  · obtain ⟨a, vs, ds, rfl, ha, da, h⟩ := rdL_ok h o r1
    obtain ⟨b, ws, es, rfl, hb, db, h1, h2⟩ := rdL_ok h o r2
    exact Or.inr (Or.inr (Or.inr ⟨a, b, vs, ws, rfl, rfl, ha, hb, by rw [dqa_len da, dqa_len db]; exact h1, fun p hp => newL_ok hm o (dqa_app da db) h2 k hp⟩))
/-- a == b -/
def arEq : AR := fun x y Ω Φ => match x, y with
  | .d (.int i), .d (.int j) => Φ (.d (.bool (decide (i = j)))) Ω
  | .d (.bool i), .d (.bool j) => Φ (.d (.bool (decide (i = j)))) Ω
  | .d (.str i), .d (.str j) => Φ (.d (.bool (decide (i = j)))) Ω
  | x, y => rdD x Ω fun d => rdD y Ω fun e => SeqAt.shaped d = true ∧ SeqAt.shaped e = true ∧ Φ (.d (.bool (PyData.eqv d e))) Ω
def arNe : AR := fun x y Ω Φ => match x, y with
  | .d (.int i), .d (.int j) => Φ (.d (.bool (!decide (i = j)))) Ω
  | .d (.bool i), .d (.bool j) => Φ (.d (.bool (!decide (i = j)))) Ω
  | .d (.str i), .d (.str j) => Φ (.d (.bool (!decide (i = j)))) Ω
  | x, y => rdD x Ω fun d => rdD y Ω fun e => SeqAt.shaped d = true ∧ SeqAt.shaped e = true ∧ Φ (.d (.bool (!PyData.eqv d e))) Ω
theorem jo_eq (hu : X.A.units + 64 < cLine) : JOp X G (compareOp .Eq) arEq := by
  refine ⟨_, OpR.or op_eq (op_eqD hu), ⟨fun {x y Ω Φ} h {P F H vx vy Q} o r1 r2 k => ?_⟩⟩
  unfold arEq at h
  split at h
  · cases dqi r1; cases dqi r2
    refine Or.inl ⟨rfl, k h o (Same.refl F) ?_⟩
    simp only [V.int.injEq]; exact .bl _
  · cases dqb r1; cases dqb r2
    refine Or.inl ⟨rfl, k h o (Same.refl F) ?_⟩
    simp only [V.bl.injEq]; exact .bl _
  · cases dqs r1; cases dqs r2
    refine Or.inl ⟨rfl, k h o (Same.refl F) ?_⟩
    simp only [V.str.injEq]; exact .bl _
  · obtain ⟨d, hd, -, h⟩ := rdD_ok2 h o r1
    obtain ⟨e, he, -, h1, h2, h3⟩ := rdD_ok2 h o r2
    exact Or.inr ⟨d, e, hd (noDict_of_shaped h1), he (noDict_of_shaped h2), h1, h2, k h3 o (Same.refl F) (.bl _)⟩
theorem jo_ne (hu : X.A.units + 64 < cLine) : JOp X G (compareOp .NotEq) arNe := by
  refine ⟨_, OpR.or op_ne (op_neD hu), ⟨fun {x y Ω Φ} h {P F H vx vy Q} o r1 r2 k => ?_⟩⟩
  unfold arNe at h
  split at h
  · cases dqi r1; cases dqi r2
    refine Or.inl ⟨rfl, k h o (Same.refl F) ?_⟩
    simp only [V.int.injEq]; exact .bl _
  · cases dqb r1; cases dqb r2
    refine Or.inl ⟨rfl, k h o (Same.refl F) ?_⟩
    simp only [V.bl.injEq]; exact .bl _
  · cases dqs r1; cases dqs r2
    refine Or.inl ⟨rfl, k h o (Same.refl F) ?_⟩
    simp only [V.str.injEq]; exact .bl _
  · obtain ⟨d, hd, -, h⟩ := rdD_ok2 h o r1
    obtain ⟨e, he, -, h1, h2, h3⟩ := rdD_ok2 h o r2
    exact Or.inr ⟨d, e, hd (noDict_of_shaped h1), he (noDict_of_shaped h2), h1, h2, k h3 o (Same.refl F) (.bl _)⟩
/-- a is None, a is not None -/
def isNon : SV → Bool
  | .d .none => true
  | .r v => decide (v = .non)
  | _ => false
theorem isNon_ok {K : Frag} {F : Hp} {v : V} : ∀ {x : SV}, Rp K F v x → decide (v = .non) = isNon x
  | .d .none, h => by cases dqn h; rfl
  | .d (.int i), h => by cases dqi h; rfl
  | .d (.bool b), h => by cases dqb h; rfl
  | .d (.str b), h => by cases dqs h; rfl
  | .d (.list b), h => by obtain ⟨a, _, rfl, _⟩ := dql h; rfl
  | .d (.tuple b), h => by obtain ⟨a, _, rfl, _⟩ := dqt h; rfl
  | .d (.dict b), h => by cases h; rfl
  | .l ds, h => by obtain ⟨a, _, rfl, _⟩ := h; rfl
  | .r u, h => by cases (show v = u from h); rfl
def arIs : AR := fun x y Ω Φ => match y with
  | .d .none => Φ (.d (.bool (isNon x))) Ω
  | _ => False
def arIsNot : AR := fun x y Ω Φ => match y with
  | .d .none => Φ (.d (.bool (!isNon x))) Ω
  | _ => False
theorem jo_is : JOp X G (compareOp .Is) arIs := by
  refine ⟨_, op_isN, ⟨fun {x y Ω Φ} h {P F H vx vy Q} o r1 r2 k => ?_⟩⟩
  unfold arIs at h
  split at h
  · exact ⟨dqn r2, k h o (Same.refl F) (by rw [isNon_ok r1]; exact .bl _)⟩
  · exact h.elim
theorem jo_isnot : JOp X G (compareOp .IsNot) arIsNot := by
  refine ⟨_, op_notN, ⟨fun {x y Ω Φ} h {P F H vx vy Q} o r1 r2 k => ?_⟩⟩
  unfold arIsNot at h
  split at h
  · exact ⟨dqn r2, k h o (Same.refl F) (by rw [isNon_ok r1]; exact .bl _)⟩
  · exact h.elim
/-! ### truth, tests, and, or, not -/
/-- the ways of a truth value -/
structure br (b : Bool) (A B : Prop) : Prop where
  t : b = true → A
  f : b = false → B
theorem br_of {b : Bool} {A B : Prop} (h1 : b = true → A) (h2 : b = false → B) : br b A B := ⟨h1, h2⟩
theorem br_d {p : Prop} [Decidable p] {A B : Prop} (h1 : p → A) (h2 : ¬p → B) : br (decide p) A B := ⟨fun h => h1 (of_decide_eq_true h), fun h => h2 (of_decide_eq_false h)⟩
theorem br_n {b : Bool} {A B : Prop} (h : br b B A) : br (!b) A B := ⟨fun e => h.f (by cases b <;> simp_all), fun e => h.t (by cases b <;> simp_all)⟩
theorem br_T {A B : Prop} (h : A) : br true A B := ⟨fun _ => h, fun e => (by cases e)⟩
theorem br_F {A B : Prop} (h : B) : br false A B := ⟨fun e => (by cases e), fun _ => h⟩
def brX (b : Bool) (A B : Prop) : Prop := match b with
  | true => A
  | false => B
theorem br_out {b : Bool} {A B : Prop} (h : br b A B) : brX b A B := by
  cases b
  · exact h.f rfl
  · exact h.t rfl
theorem br_ite {b : Bool} {A B : Prop} (h : brX b A B) : if b = true then A else B := by
  cases b
  · rw [if_neg Bool.false_ne_true]; exact h
  · rw [if_pos rfl]; exact h
def truD (x : SV) (Ω : Om) (k : Bool → Prop) : Prop := match x with
  | .d .none => k false
  | .d (.bool b) => k b
  | .d (.int i) => k (i != 0)
  | .d (.str y) => y.length ≤ sizeLine ∧ k ((y.length : Int) != 0)
  | x => rdS x Ω fun ds => k (!ds.isEmpty)
theorem truD_ok {E : En} {P F H : Hp} {Ω : Om} {x : SV} {v : V} {k : Bool → Prop} (h : truD x Ω k) (o : Ok E P F H Ω) (r : Rp E.K F v x) : ∃ b, TruV E.K v H b ∧ k b := by
  unfold truD at h
  split at h
  · cases dqn r; exact ⟨false, rfl, h⟩
  · cases dqb r; exact ⟨_, rfl, h⟩
  · cases dqi r; exact ⟨_, rfl, h⟩
  · cases dqs r; exact ⟨_, ⟨h.1, rfl⟩, h.2⟩
  · obtain ⟨a, vs, ds, rfl, hs, da, hk⟩ := rdS_ok h o r
    have ee : (!vs.isEmpty) = !ds.isEmpty := by cases da <;> rfl
    rcases hs with hs | hs
    · exact ⟨_, Or.inl ⟨vs, hs, ee.symm⟩, hk⟩
    · exact ⟨_, Or.inr (Or.inl ⟨vs, hs, ee.symm⟩), hk⟩
def aTru (a : AE) : AT := fun ρ Ω Φ => a ρ Ω fun x Ω' => truD x Ω' fun b => Φ b Ω'
theorem jt_of (ha : JE X G a aa) (he : ∀ whole, isTrue a X.env whole = (do let v ← whole; standAt a.pos; holding [v] (truthy v)) := by intro _; rfl) : JT X G a (aTru aa) := by
  obtain ⟨t, h3, h4⟩ := ha
  refine ⟨_, pt_truth h3 he, ⟨fun {ρ Ω Φ} h {P F H σ Q} o rp k => h4.go h o rp fun {v sv Ω1 F1 H1} q o1 s1 r1 => ?_⟩⟩
  obtain ⟨b, hb, hk⟩ := truD_ok q o1 r1
  exact ⟨b, hb, k hk o1 s1⟩
/-- a comparison as a test -/
def aB (a : AE) : AT := fun ρ Ω Φ => a ρ Ω fun x Ω' => match x with | .d (.bool b) => Φ b Ω' | _ => False
theorem jt_cmp {op : CmpOp} {ar : AR} (ho : JOp X G (compareOp op) ar) (ha : JE X G a aa) (hb : JE X G b ab) (hm : behindInMarks op b = false) : JT X G (.Compare a [op] [b] pos) (aB (aBin ar aa ab)) := by
  obtain ⟨r, h1, h2⟩ := ho
  obtain ⟨t, h3, h4⟩ := ha
  obtain ⟨u, h5, h6⟩ := hb
  refine ⟨_, pt_cmpR h1 h3 h5 hm, ⟨fun {ρ Ω Φ} h {P F H σ Q} o rp k => (bin_ok h4 h6 h2).go h o rp fun {v sv Ω1 F1 H1} q o1 s1 r1 => ?_⟩⟩
  dsimp only at q
  split at q
  · exact ⟨_, dqb r1, k q o1 s1⟩
  · exact q.elim
def aAnd (t u : AT) : AT := fun ρ Ω Φ => t ρ Ω fun b Ω1 => br b (u ρ Ω1 Φ) (Φ false Ω1)
def aOr (t u : AT) : AT := fun ρ Ω Φ => t ρ Ω fun b Ω1 => br b (Φ true Ω1) (u ρ Ω1 Φ)
def aNot (t : AT) : AT := fun ρ Ω Φ => t ρ Ω fun b Ω1 => Φ (!b) Ω1
theorem jw_pt (h : JW X G a at_) : JT X G a at_ := by
  obtain ⟨t, h1, h2⟩ := h
  exact ⟨t, h1.pt, h2⟩
theorem jw_and1 (h : JT X G a at_) : JW X G (.BoolOp .And [a] pos) at_ := by
  obtain ⟨t, h1, h2⟩ := h
  exact ⟨t, pw_and1 h1, h2⟩
theorem jw_or1 (h : JT X G a at_) : JW X G (.BoolOp .Or [a] pos) at_ := by
  obtain ⟨t, h1, h2⟩ := h
  exact ⟨t, pw_or1 h1, h2⟩
theorem jw_and {rest : List Expr} (h : JT X G a at_) (h' : JW X G (.BoolOp .And (b :: rest) pos) bt) : JW X G (.BoolOp .And (a :: b :: rest) pos) (aAnd at_ bt) := by
  obtain ⟨t, h1, h2⟩ := h
  obtain ⟨u, h3, h4⟩ := h'
  refine ⟨_, pw_and h1 h3, ⟨fun {ρ Ω Φ} h {P F H σ Q} o rp k => h2.go h o rp fun {b Ω1 F1 H1} q o1 s1 => br_ite ?_⟩⟩
  replace q := br_out q
  cases b
  · exact k q o1 s1
  · exact h4.go q o1 (rpe_same s1 rp) fun q2 o2 s2 => k q2 o2 (s1.trans s2)
theorem jw_or {rest : List Expr} (h : JT X G a at_) (h' : JW X G (.BoolOp .Or (b :: rest) pos) bt) : JW X G (.BoolOp .Or (a :: b :: rest) pos) (aOr at_ bt) := by
  obtain ⟨t, h1, h2⟩ := h
  obtain ⟨u, h3, h4⟩ := h'
  refine ⟨_, pw_or h1 h3, ⟨fun {ρ Ω Φ} h {P F H σ Q} o rp k => h2.go h o rp fun {b Ω1 F1 H1} q o1 s1 => br_ite ?_⟩⟩
  replace q := br_out q
  cases b
  · exact h4.go q o1 (rpe_same s1 rp) fun q2 o2 s2 => k q2 o2 (s1.trans s2)
  · exact k q o1 s1
theorem jt_not (h : JT X G a at_) : JT X G (.UnaryOp .Not a pos) (aNot at_) := by
  obtain ⟨t, h1, h2⟩ := h
  exact ⟨_, pt_not h1, ⟨fun {ρ Ω Φ} h {P F H σ Q} o rp k => h2.go h o rp fun q o1 s1 => k q o1 s1⟩⟩
/-- and, or, not as values: all but the last True or False -/
def aAndV (a b : AE) : AE := fun ρ Ω Φ => a ρ Ω fun x Ω1 => match x with
  | .d (.bool c) => br c (b ρ Ω1 Φ) (Φ (.d (.bool false)) Ω1)
  | _ => False
def aOrV (a b : AE) : AE := fun ρ Ω Φ => a ρ Ω fun x Ω1 => match x with
  | .d (.bool c) => br c (Φ (.d (.bool true)) Ω1) (b ρ Ω1 Φ)
  | _ => False
def aNotV (a : AE) : AE := fun ρ Ω Φ => a ρ Ω fun x Ω1 => match x with
  | .d (.bool c) => Φ (.d (.bool (!c))) Ω1
  | _ => False
theorem je_one {op} (h : JE X G a aa) : JE X G (.BoolOp op [a] pos) aa := by
  obtain ⟨t, h1, h2⟩ := h
  exact ⟨t, pe_one h1, h2⟩
theorem je_and {rest : List Expr} (h : JE X G a aa) (h' : JE X G (.BoolOp .And (b :: rest) pos) ab) : JE X G (.BoolOp .And (a :: b :: rest) pos) (aAndV aa ab) := by
  obtain ⟨t, h1, h2⟩ := h
  obtain ⟨u, h3, h4⟩ := h'
  refine ⟨_, pe_and h1 h3, ⟨fun {ρ Ω Φ} h {P F H σ Q} o rp k => h2.go h o rp fun {v sv Ω1 F1 H1} q o1 s1 r1 => ?_⟩⟩
  dsimp only at q
  split at q
  · rename_i c
    refine ⟨c, dqb r1, br_ite ?_⟩
    replace q := br_out q
    cases c
    · exact k q o1 s1 (.bl _)
    · exact h4.go q o1 (rpe_same s1 rp) fun q2 o2 s2 r2 => k q2 o2 (s1.trans s2) r2
  · exact q.elim
theorem je_or {rest : List Expr} (h : JE X G a aa) (h' : JE X G (.BoolOp .Or (b :: rest) pos) ab) : JE X G (.BoolOp .Or (a :: b :: rest) pos) (aOrV aa ab) := by
  obtain ⟨t, h1, h2⟩ := h
  obtain ⟨u, h3, h4⟩ := h'
  refine ⟨_, pe_or h1 h3, ⟨fun {ρ Ω Φ} h {P F H σ Q} o rp k => h2.go h o rp fun {v sv Ω1 F1 H1} q o1 s1 r1 => ?_⟩⟩
  dsimp only at q
  split at q
  · rename_i c
    refine ⟨c, dqb r1, br_ite ?_⟩
    replace q := br_out q
    cases c
    · exact h4.go q o1 (rpe_same s1 rp) fun q2 o2 s2 r2 => k q2 o2 (s1.trans s2) r2
    · exact k q o1 s1 (.bl _)
  · exact q.elim
theorem je_not (h : JE X G a aa) : JE X G (.UnaryOp .Not a pos) (aNotV aa) := by
  obtain ⟨t, h1, h2⟩ := h
  refine ⟨_, pe_not h1, ⟨fun {ρ Ω Φ} h {P F H σ Q} o rp k => h2.go h o rp fun {v sv Ω1 F1 H1} q o1 s1 r1 => ?_⟩⟩
  dsimp only at q
  split at q
  · exact ⟨_, dqb r1, k q o1 s1 (.bl _)⟩
  · exact q.elim
def aIfE (t : AT) (a b : AE) : AE := fun ρ Ω Φ => t ρ Ω fun c Ω1 => br c (a ρ Ω1 Φ) (b ρ Ω1 Φ)
theorem je_if {c : Expr} (ht : JT X G c at_) (ha : JE X G a aa) (hb : JE X G b ab) : JE X G (.IfExp c a b pos) (aIfE at_ aa ab) := by
  obtain ⟨t, h1, h2⟩ := ht
  obtain ⟨ta, h3, h4⟩ := ha
  obtain ⟨tb, h5, h6⟩ := hb
  refine ⟨_, pe_ifExp h1 h3 h5, ⟨fun {ρ Ω Φ} h {P F H σ Q} o rp k => h2.go h o rp fun {c Ω1 F1 H1} q o1 s1 => br_ite ?_⟩⟩
  replace q := br_out q
  cases c
  · exact h6.go q o1 (rpe_same s1 rp) fun q2 o2 s2 r2 => k q2 o2 (s1.trans s2) r2
  · exact h4.go q o1 (rpe_same s1 rp) fun q2 o2 s2 r2 => k q2 o2 (s1.trans s2) r2
/-! ### argument lists, displays -/
def aNil : AA := fun _ Ω Φ => Φ [] Ω
def aCons (a : AE) (t : AA) : AA := fun ρ Ω Φ => a ρ Ω fun x Ω1 => t ρ Ω1 fun xs Ω2 => Φ (x :: xs) Ω2
theorem cons_ok {E : En} {ta : TE} {tr : TA} {ar : AA} (h1 : SnE E ta aa) (h2 : SnA E tr ar) : SnA E (tCons ta tr) (aCons aa ar) := ⟨fun {ρ Ω Φ} h {P F H σ Q} o rp k =>
  h1.go h o rp fun {v sv Ω1 F1 H1} q o1 s1 r1 => h2.go q o1 (rpe_same s1 rp) fun {vs svs Ω2 F2 H2} q2 o2 s2 r2 => k q2 o2 (s1.trans s2) (.cons (r1.same s2) r2)⟩
theorem ja_nil : JA X G [] aNil := ⟨_, pa_nil, ⟨fun {ρ Ω Φ} h {P F H σ Q} o rp k => k h o (Same.refl F) .nil⟩⟩
theorem ja_cons {es : List Expr} {ar : AA} (ha : JE X G e aa) (hr : JA X G es ar) (hs : starEach (e :: es) X.env = (false, eval e X.env) :: starEach es X.env := by rfl) : JA X G (e :: es) (aCons aa ar) := by
  obtain ⟨t, h1, h2⟩ := ha
  obtain ⟨u, h3, h4⟩ := hr
  exact ⟨_, pa_cons h1 h3 hs, cons_ok h2 h4⟩
theorem jk_nil : JK X G [] aNil := ⟨_, pk_nil, ⟨fun {ρ Ω Φ} h {P F H σ Q} o rp k => k h o (Same.refl F) .nil⟩⟩
theorem jk_cons {kws : List Keyword} {ar : AA} {nm : Option Str} {kpos : Pos} (ha : JE X G e aa) (hr : JK X G kws ar) : JK X G (⟨nm, e, kpos⟩ :: kws) (aCons aa ar) := by
  obtain ⟨t, h1, h2⟩ := ha
  obtain ⟨u, h3, h4⟩ := hr
  exact ⟨_, pk_cons h1 h3, cons_ok h2 h4⟩
def aTup (t : AA) : AE := fun ρ Ω Φ => t ρ Ω fun xs Ω' => xs.length ≤ sizeLine ∧ match dataOf xs with | some ds => Φ (.d (.tuple ds)) Ω' | none => False
theorem je_tup {es : List Expr} {ar : AA} {x1} (h : JA X G es ar) : JE X G (.Tuple es x1 pos) (aTup ar) := by
  obtain ⟨t, h1, h2⟩ := h
  refine ⟨_, pe_tup h1, ⟨fun {ρ Ω Φ} h {P F H σ Q} o rp k => h2.go h o rp fun {vs svs Ω1 F1 H1} q o1 s1 r1 => ⟨by rw [r1.length]; exact q.1, fun p hp => ?_⟩⟩⟩
  have q2 := q.2
  split at q2
  · rename_i ds e
    obtain ⟨o2, s2⟩ := o1.newF (o := .tup vs) hp
    exact k q2 o2 (s1.trans s2) (Dq.tup (SqT.of upd_same) (dqa_same s2 _ _ (dataOf_ok e r1)))
  · exact q2.elim
def aLst (m : Mode) (t : AA) : AE := fun ρ Ω Φ => t ρ Ω fun xs Ω' => xs.length ≤ sizeLine ∧ newX m xs Ω' Φ
theorem je_lst {es : List Expr} {ar : AA} (hm : MOk (enX X G) m) (h : JA X G es ar) : JE X G (.List es pos) (aLst m ar) := by
  obtain ⟨t, h1, h2⟩ := h
  exact ⟨_, pe_lst h1, ⟨fun {ρ Ω Φ} h {P F H σ Q} o rp k => h2.go h o rp fun {vs svs Ω1 F1 H1} q o1 s1 r1 => ⟨by rw [r1.length]; exact q.1, fun p hp => newX_ok hm o1 r1 q.2 (fun q2 o2 s2 r2 => k q2 o2 (s1.trans s2) r2) hp⟩⟩⟩
end
end Z
/-! Z4: subscripts, slices, built-ins, methods, calls of defs; what a for walks; statements. -/
namespace Z
open PySem PySem.Spec PyProof.Rows L2
theorem dqa_rev {K : Frag} {F : Hp} {vs : List V} {ds : List PyData} (h : DqAll K F vs ds) : DqAll K F vs.reverse ds.reverse := by
  have q := pr_rev (of_dqa h)
  rw [← List.map_reverse] at q
  exact dqa_of q
theorem dqa_take {K : Frag} {F : Hp} {vs : List V} {ds : List PyData} (n : Nat) (h : DqAll K F vs ds) : DqAll K F (vs.take n) (ds.take n) := by
  have q := pr_take n (of_dqa h)
  rw [← List.map_take] at q
  exact dqa_of q
theorem dqa_drop {K : Frag} {F : Hp} {vs : List V} {ds : List PyData} (n : Nat) (h : DqAll K F vs ds) : DqAll K F (vs.drop n) (ds.drop n) := by
  have q := pr_drop n (of_dqa h)
  rw [← List.map_drop] at q
  exact dqa_of q
theorem dqa_get {K : Frag} {F : Hp} {vs : List V} {ds : List PyData} {i : Nat} {d : PyData} (h : DqAll K F vs ds) (e : ds[i]? = some d) : ∃ v, vs[i]? = some v ∧ Dq K F v d :=
  pr_get (R := Rp K F) (of_dqa h) (i := i) (y := .d d) (by rw [List.getElem?_map, e]; rfl)
theorem dqa_getL {K : Frag} {F : Hp} {vs : List V} {ds : List PyData} {i : Nat} {v : V} (h : DqAll K F vs ds) (e : vs[i]? = some v) : ∃ d, ds[i]? = some d ∧ Dq K F v d := by
  obtain ⟨y, hy, r⟩ := pr_getL (of_dqa h) e
  rw [List.getElem?_map] at hy
  cases hd : ds[i]? with
  | none => rw [hd] at hy; cases hy
  | some d => rw [hd] at hy; cases hy; exact ⟨d, rfl, r⟩
theorem dqa_set {K : Frag} {F : Hp} {vs : List V} {ds : List PyData} {v : V} {d : PyData} (i : Nat) (h : DqAll K F vs ds) (r : Dq K F v d) : DqAll K F (vs.set i v) (ds.set i d) := by
  have q := pr_set (R := Rp K F) (x := v) (y := .d d) r i (of_dqa h)
  rw [← List.map_set] at q
  exact dqa_of q
theorem dqa_erase {K : Frag} {F : Hp} {vs : List V} {ds : List PyData} (i : Nat) (h : DqAll K F vs ds) : DqAll K F (vs.eraseIdx i) (ds.eraseIdx i) := by
  have q := pr_erase i (of_dqa h)
  have e : (ds.map SV.d).eraseIdx i = (ds.eraseIdx i).map SV.d := by
    rw [List.eraseIdx_eq_take_drop_succ, List.eraseIdx_eq_take_drop_succ, List.map_append, List.map_take, List.map_drop]
  rw [e] at q
  exact dqa_of q
theorem dqa_ints {K : Frag} {F : Hp} : ∀ {vs : List V} {ns : List Int}, DqAll K F vs (ns.map PyData.int) → vs = ns.map V.int
  | _, [], h => by cases h; rfl
  | _, n :: ns, h => by
    cases h with
    | cons r t => rw [dqi r, dqa_ints t]; rfl
theorem ints_dqa {K : Frag} {F : Hp} : ∀ (ns : List Int), DqAll K F (ns.map V.int) (ns.map PyData.int)
  | [] => .nil
  | n :: ns => .cons (.int n) (ints_dqa ns)
theorem dqa_bools {K : Frag} {F : Hp} : ∀ {vs : List V} {ns : List Bool}, DqAll K F vs (ns.map PyData.bool) → vs = ns.map V.bl
  | _, [], h => by cases h; rfl
  | _, n :: ns, h => by
    cases h with
    | cons r t => rw [dqb r, dqa_bools t]; rfl
theorem at_len {K : Frag} {F : Hp} {vs : List V} {ds : List PyData} {i : Int} {d : PyData} (h : DqAll K F vs ds) (e : atI ds i = some d) : ∃ v, atI vs i = some v ∧ Dq K F v d := by
  unfold atI at e ⊢
  rw [dqa_len h]
  cases q : ixN ds.length i with
  | none => rw [q] at e; cases e
  | some j => rw [q] at e; exact dqa_get h e
theorem at_lenX {K : Frag} {F : Hp} {vs : List V} {xs : List SV} {i : Int} {x : SV} (h : Paired (Rp K F) vs xs) (e : atI xs i = some x) : ∃ v, atI vs i = some v ∧ Rp K F v x := by
  unfold atI at e ⊢
  rw [h.length]
  cases q : ixN xs.length i with
  | none => rw [q] at e; cases e
  | some j => rw [q] at e; exact pr_get h e
/-- the items of xs[lo:hi] -/
def cutD {α : Type} (xs : List α) (lo hi : Option Int) : List α := (xs.drop (HT.sIx xs.length 0 lo)).take (HT.sIx xs.length xs.length hi - HT.sIx xs.length 0 lo)
theorem dqa_cut {K : Frag} {F : Hp} {vs : List V} {ds : List PyData} (lo hi : Option Int) (h : DqAll K F vs ds) : DqAll K F (cutV vs lo hi) (cutD ds lo hi) := by
  unfold cutV cutD
  rw [dqa_len h]
  exact dqa_take _ (dqa_drop _ h)
section
variable {X : Cx} {G : Gn} {e a b : Expr} {aa ab : AE} {at_ bt : AT} {ta : AA} {pos : Pos} {m : Mode}
/-! ### a[i] -/
def ixC (c : OC) (i : Int) (Ω : Om) (Φ : PhiE) : Prop := match c with
  | .lst ds => ∃ d, atI ds i = some d ∧ Φ (.d d) Ω
  | .lx xs => ∃ x, atI xs i = some x ∧ Φ x Ω
  | _ => False
def arIx : AR := fun x y Ω Φ => match x, y with
  | .d (.list ds), .d (.int i) => ∃ d, atI ds i = some d ∧ Φ (.d d) Ω
  | .d (.tuple ds), .d (.int i) => ∃ d, atI ds i = some d ∧ Φ (.d d) Ω
  | .d (.str z), .d (.int i) => z.length ≤ sizeLine ∧ ∃ c, atI z.cps.toList i = some c ∧ Φ (.d (.str ⟨#[c]⟩)) Ω
  | .l ds, .d (.int i) => ∃ d, atI ds i = some d ∧ Φ (.d d) Ω
  | .r (.ref p), .d (.int i) => ∃ c f, At Ω p c f ∧ ixC c i Ω Φ
  | _, _ => False
theorem jx_seq : JIx X G arIx := by
  refine ⟨_, ix_seq, ⟨fun {x y Ω Φ} h {P F H vx vy Q} o r1 r2 k => ?_⟩⟩
  unfold arIx at h
  split at h
  · obtain ⟨d, e, q⟩ := h
    obtain ⟨p, vs, rfl, hF, da⟩ := dql r1
    obtain ⟨v, e2, rv⟩ := at_len da e
    exact Or.inl ⟨p, vs, _, v, rfl, dqi r2, SqL.of (o.ex _ _ hF), e2, k q o (Same.refl F) rv⟩
  · obtain ⟨d, e, q⟩ := h
    obtain ⟨p, vs, rfl, hF, da⟩ := dqt r1
    obtain ⟨v, e2, rv⟩ := at_len da e
    exact Or.inr (Or.inl ⟨p, vs, _, v, rfl, dqi r2, sqt_same o.ex hF, e2, k q o (Same.refl F) rv⟩)
  · obtain ⟨hz, c, e, q⟩ := h
    exact Or.inr (Or.inr ⟨_, _, c, dqs r1, dqi r2, hz, e, k q o (Same.refl F) (.str _)⟩)
  · obtain ⟨d, e, q⟩ := h
    obtain ⟨p, vs, rfl, hF, da⟩ := r1
    obtain ⟨v, e2, rv⟩ := at_len da e
    exact Or.inl ⟨p, vs, _, v, rfl, dqi r2, o.ex.seq hF, e2, k q o (Same.refl F) rv⟩
  · obtain ⟨c, f, t, q⟩ := h
    cases r1
    unfold ixC at q
    split at q
    · obtain ⟨d, e, q⟩ := q
      obtain ⟨vs, h1, h2⟩ := o.lst t
      obtain ⟨v, e2, rv⟩ := at_len h2 e
      exact Or.inl ⟨_, vs, _, v, rfl, dqi r2, SqL.of h1, e2, k q o (Same.refl F) rv⟩
    · obtain ⟨d, e, q⟩ := q
      obtain ⟨vs, h1, h2⟩ := o.lx t
      obtain ⟨v, e2, rv⟩ := at_lenX h2 e
      exact Or.inl ⟨_, vs, _, v, rfl, dqi r2, SqL.of h1, e2, k q o (Same.refl F) rv⟩
    · exact q.elim
  · exact h.elim
theorem je_ix {ar : AR} (hr : JIx X G ar) (ha : JE X G a aa) (hb : JE X G b ab) (hs : PlainIx b) : JE X G (.Subscript a b pos) (aBin ar aa ab) := by
  obtain ⟨r, h1, h2⟩ := hr
  obtain ⟨t, h3, h4⟩ := ha
  obtain ⟨u, h5, h6⟩ := hb
  exact ⟨_, pe_ix h1 h3 h5 hs, bin_ok h4 h6 h2⟩
/-! ### a[lo:hi] -/
abbrev AO := Rho → Om → (Option Int → Om → Prop) → Prop
structure SnO (E : En) (te : TO) (a : AO) : Prop where
  go : ∀ {ρ : Rho} {Ω : Om} {Φ : Option Int → Om → Prop}, a ρ Ω Φ → ∀ {P F H : Hp} {σ : L2.St} {Q : Option Int → Hp → Prop}, Ok E P F H Ω → RpE E.K F σ ρ →
    (∀ {b : Option Int} {Ω' : Om} {F' H' : Hp}, Φ b Ω' → Ok E P F' H' Ω' → Same F F' → Q b H') → te σ H Q
def JO (X : Cx) (G : Gn) (e : Option Expr) (a : AO) : Prop := ∃ te, PO X e te ∧ SnO (enX X G) te a
def aNoP : AO := fun _ Ω Φ => Φ none Ω
def aPart (a : AE) : AO := fun ρ Ω Φ => a ρ Ω fun x Ω' => match x with | .d (.int i) => Φ (some i) Ω' | _ => False
theorem jp_none : JO X G none aNoP := ⟨_, po_none, ⟨fun {ρ Ω Φ} h {P F H σ Q} o rp k => k h o (Same.refl F)⟩⟩
theorem jp_some (ha : JE X G a aa) : JO X G (some a) (aPart aa) := by
  obtain ⟨t, h1, h2⟩ := ha
  refine ⟨_, po_some h1, ⟨fun {ρ Ω Φ} h {P F H σ Q} o rp k => h2.go h o rp fun {v sv Ω1 F1 H1} q o1 s1 r1 => ?_⟩⟩
  dsimp only at q
  split at q
  · exact ⟨_, dqi r1, k q o1 s1⟩
  · exact q.elim
def slR (m : Mode) (x : SV) (lo hi : Option Int) (Ω : Om) (Φ : PhiE) : Prop := match x with
  | .d (.tuple ds) => Φ (.d (.tuple (cutD ds lo hi))) Ω
  | .l ds => newL m (cutD ds lo hi) Ω Φ
  | x => rdL x Ω fun ds => newL m (cutD ds lo hi) Ω Φ
def aSl (m : Mode) (a : AE) (lo hi : AO) : AE := fun ρ Ω Φ => a ρ Ω fun x Ω1 => lo ρ Ω1 fun i Ω2 => hi ρ Ω2 fun j Ω3 => slR m x i j Ω3 Φ
theorem cut_all {α : Type} {xs : List α} {lo hi : Option Int} (h : HT.sIx xs.length 0 lo = 0 ∧ HT.sIx xs.length xs.length hi = xs.length) : cutD xs lo hi = xs := by
  unfold cutD
  rw [h.1, h.2, List.drop_zero, Nat.sub_zero, List.take_length]
theorem je_sl {lo hi : Option Expr} {al ah : AO} {p2 : Pos} (hm : MOk (enX X G) m) (ha : JE X G a aa) (hl : JO X G lo al) (hh : JO X G hi ah) : JE X G (.Subscript a (.Slice lo hi none p2) pos) (aSl m aa al ah) := by
  obtain ⟨t, h1, h2⟩ := ha
  obtain ⟨u, h3, h4⟩ := hl
  obtain ⟨w, h5, h6⟩ := hh
  refine ⟨_, pe_slice (SlR.or sl_tupA sl_list) h1 h3 h5, ⟨fun {ρ Ω Φ} h {P F H σ Q} o rp k => h2.go h o rp fun {v sv Ω1 F1 H1} q o1 s1 r1 => h4.go q o1 (rpe_same s1 rp) fun {i Ω2 F2 H2} q2 o2 s2 => h6.go q2 o2 (rpe_same (s1.trans s2) rp) fun {j Ω3 F3 H3} q3 o3 s3 => ?_⟩⟩
  have r3 := (r1.same s2).same s3
  have k3 : Aft (enX X G) P F3 Φ Q := fun p1 p2 p3 p4 => k p1 p2 (((s1.trans s2).trans s3).trans p3) p4
  unfold slR at q3
  split at q3
  · rename_i ds
    obtain ⟨p, vs, rfl, hF, da⟩ := dqt r3
    refine Or.inl ⟨p, vs, rfl, sqt_same o3.ex hF, fun z => ?_, fun z q hq => ?_⟩
    · rw [dqa_len da] at z
      rw [cut_all z] at q3
      exact k3 q3 o3 (Same.refl F3) r3
    · obtain ⟨o4, s4⟩ := o3.newF (o := .tup (cutV vs i j)) hq
      exact k3 q3 o4 s4 (Dq.tup (SqT.of upd_same) (dqa_same s4 _ _ (dqa_cut i j da)))
  · obtain ⟨p, vs, rfl, hF, da⟩ := r3
    exact Or.inr ⟨p, vs, rfl, o3.ex.seq hF, fun q hq => newL_ok hm o3 (dqa_cut i j da) q3 k3 hq⟩
  · obtain ⟨p, vs, ds, rfl, hF, da, q4⟩ := rdL_ok q3 o3 r3
    exact Or.inr ⟨p, vs, rfl, SqL.of hF, fun q hq => newL_ok hm o3 (dqa_cut i j da) q4 k3 hq⟩
/-! ### built-ins -/
def aCB (ac : AC) (t : AA) : AE := fun ρ Ω Φ => t ρ Ω fun xs Ω' => ac xs Ω' Φ
theorem cb_ok {E : En} {r : List V → Hp → VK → Prop} {ac : AC} {t : TA} (h1 : SnA E t ta) (h2 : SnC E r ac) : SnE E (tCB r t) (aCB ac ta) := ⟨fun {ρ Ω Φ} h {P F H σ Q} o rp k =>
  h1.go h o rp fun q o1 s1 r1 => h2.go q o1 r1 fun q2 o2 s2 r2 => k q2 o2 (s1.trans s2) r2⟩
theorem je_callB {id : String} {ac : AC} {x : Str} {p : Pos} {es : List Expr} (hc : JC X G (.builtin id) ac) (hg : Gl X x) (hm : X.mg x = none) (hv : bootBuiltins x = some (.builtin id)) (ha : JA X G (e :: es) ta) (hn : x ≠ "__name__" := by decide) (hdb : (x == ("__debug__" : Str)) = false := by decide)
    (he : starEach (e :: es) X.env = (false, eval e X.env) :: starEach es X.env := by rfl) (hpl : (backTo pos (starEach es X.env)).any (·.1) = false := by rfl) : JE X G (.Call (.Name x p) (e :: es) [] pos) (aCB ac ta) := by
  obtain ⟨r, h1, h2⟩ := hc
  obtain ⟨t, h3, h4⟩ := ha
  exact ⟨_, pe_callB h1 hg hm hv h3 hn hdb he hpl, cb_ok h4 h2⟩
theorem je_callTy {T : String} {ac : AC} {x : Str} {p : Pos} {es : List Expr} (hc : JC X G (.type T) ac) (hg : Gl X x) (hm : X.mg x = none) (hv : bootBuiltins x = some (.type T)) (ha : JA X G (e :: es) ta) (hn : x ≠ "__name__" := by decide) (hdb : (x == ("__debug__" : Str)) = false := by decide)
    (he : starEach (e :: es) X.env = (false, eval e X.env) :: starEach es X.env := by rfl) (hpl : (backTo pos (starEach es X.env)).any (·.1) = false := by rfl) : JE X G (.Call (.Name x p) (e :: es) [] pos) (aCB ac ta) := by
  obtain ⟨r, h1, h2⟩ := hc
  obtain ⟨t, h3, h4⟩ := ha
  exact ⟨_, pe_callTy h1 hg hm hv h3 hn hdb he hpl, cb_ok h4 h2⟩
theorem pr1 {α β : Type} {R : α → β → Prop} {vs : List α} {x : β} (h : Paired R vs [x]) : ∃ v, vs = [v] ∧ R v x := by
  cases h with
  | cons r t => cases t; exact ⟨_, rfl, r⟩
theorem pr2 {α β : Type} {R : α → β → Prop} {vs : List α} {x y : β} (h : Paired R vs [x, y]) : ∃ v u, vs = [v, u] ∧ R v x ∧ R u y := by
  cases h with
  | cons r t =>
    obtain ⟨u, rfl, r2⟩ := pr1 t
    exact ⟨_, u, rfl, r, r2⟩
/-- of one argument -/
def ac1 (f : SV → Om → PhiE → Prop) : AC := fun xs Ω Φ => match xs with
  | [x] => f x Ω Φ
  | _ => False
def ac2 (f : SV → SV → Om → PhiE → Prop) : AC := fun xs Ω Φ => match xs with
  | [x, y] => f x y Ω Φ
  | _ => False
theorem ac1_ok {E : En} {r : List V → Hp → VK → Prop} {f : SV → Om → PhiE → Prop}
    (h : ∀ {x : SV} {Ω : Om} {Φ : PhiE}, f x Ω Φ → ∀ {P F H : Hp} {v : V} {Q : VK}, Ok E P F H Ω → Rp E.K F v x → Aft E P F Φ Q → r [v] H Q) : SnC E r (ac1 f) := by
  refine ⟨fun {xs Ω Φ} q {P F H vs Q} o rp k => ?_⟩
  unfold ac1 at q
  split at q
  · obtain ⟨v, rfl, r1⟩ := pr1 rp
    exact h q o r1 k
  · exact q.elim
theorem ac2_ok {E : En} {r : List V → Hp → VK → Prop} {f : SV → SV → Om → PhiE → Prop}
    (h : ∀ {x y : SV} {Ω : Om} {Φ : PhiE}, f x y Ω Φ → ∀ {P F H : Hp} {v u : V} {Q : VK}, Ok E P F H Ω → Rp E.K F v x → Rp E.K F u y → Aft E P F Φ Q → r [v, u] H Q) : SnC E r (ac2 f) := by
  refine ⟨fun {xs Ω Φ} q {P F H vs Q} o rp k => ?_⟩
  unfold ac2 at q
  split at q
  · obtain ⟨v, u, rfl, r1, r2⟩ := pr2 rp
    exact h q o r1 r2 k
  · exact q.elim
def fLen (x : SV) (Ω : Om) (Φ : PhiE) : Prop := match x with
  | .d (.str z) => z.length ≤ sizeLine ∧ Φ (.d (.int z.length)) Ω
  | x => rdS x Ω fun ds => Φ (.d (.int ds.length)) Ω
abbrev acLen : AC := ac1 fLen
theorem jc_len : JC X G (.builtin "len") acLen := by
  refine ⟨fun xs H Q => (∃ p ys, xs = [.ref p] ∧ (SqL X.K H p ys ∨ SqT X.K H p ys) ∧ Q (.int ys.length) H) ∨ ∃ z, xs = [.str z] ∧ z.length ≤ sizeLine ∧ Q (.int z.length) H, fun pins s σ H xs us Q I r h => ?_, ac1_ok fun {x Ω Φ} h {P F H v Q} o r k => ?_⟩
  · rcases h with h | h
    · exact call_len_seq pins s σ H xs us Q I r h
    · exact call_len_str pins s σ H xs us Q I r h
  · unfold fLen at h
    split at h
    · cases dqs r; exact Or.inr ⟨_, rfl, h.1, k h.2 o (Same.refl F) (.int _)⟩
    · obtain ⟨p, vs, ds, rfl, hs, da, q⟩ := rdS_ok h o r
      refine Or.inl ⟨p, vs, rfl, hs, k q o (Same.refl F) ?_⟩
      rw [dqa_len da]
      exact .int _
def fI1 (g : Int → Int) (x : SV) (Ω : Om) (Φ : PhiE) : Prop := match x with
  | .d (.int i) => Φ (.d (.int (g i))) Ω
  | _ => False
abbrev acAbs : AC := ac1 (fI1 fun i => if i < 0 then -i else i)
theorem jc_abs : JC X G (.builtin "abs") acAbs := by
  refine ⟨_, call_abs, ac1_ok fun {x Ω Φ} h {P F H v Q} o r k => ?_⟩
  unfold fI1 at h
  split at h
  · cases dqi r; exact ⟨_, rfl, k h o (Same.refl F) (.int _)⟩
  · exact h.elim
def fInt (x : SV) (Ω : Om) (Φ : PhiE) : Prop := match x with
  | .d (.int i) => Φ (.d (.int i)) Ω
  | .d (.bool b) => Φ (.d (.int (if b then 1 else 0))) Ω
  | _ => False
abbrev acInt : AC := ac1 fInt
theorem jc_int : JC X G (.type "int") acInt := by
  refine ⟨_, call_int1, ac1_ok fun {x Ω Φ} h {P F H v Q} o r k => ?_⟩
  unfold fInt at h
  split at h
  · cases dqi r; exact Or.inl ⟨_, rfl, k h o (Same.refl F) (.int _)⟩
  · cases dqb r; exact Or.inr ⟨_, rfl, k h o (Same.refl F) (.int _)⟩
  · exact h.elim
def fI2 (g : Int → Int → Int) (x y : SV) (Ω : Om) (Φ : PhiE) : Prop := match x, y with
  | .d (.int i), .d (.int j) => Φ (.d (.int (g i j))) Ω
  | _, _ => False
abbrev acMax2 : AC := ac2 (fI2 fun i j => if j > i then j else i)
abbrev acMin2 : AC := ac2 (fI2 fun i j => if j < i then j else i)
theorem jc_max2 (hc : X.calm = true) : JC X G (.builtin "max") acMax2 := by
  refine ⟨_, call_max2 hc, ac2_ok fun {x y Ω Φ} h {P F H v u Q} o r1 r2 k => ?_⟩
  unfold fI2 at h
  split at h
  · cases dqi r1; cases dqi r2; exact ⟨_, _, rfl, k h o (Same.refl F) (.int _)⟩
  · exact h.elim
theorem jc_min2 (hc : X.calm = true) : JC X G (.builtin "min") acMin2 := by
  refine ⟨_, call_min2 hc, ac2_ok fun {x y Ω Φ} h {P F H v u Q} o r1 r2 k => ?_⟩
  unfold fI2 at h
  split at h
  · cases dqi r1; cases dqi r2; exact ⟨_, _, rfl, k h o (Same.refl F) (.int _)⟩
  · exact h.elim
/-- tuple(x), list(x) of lists and tuples -/
def fTupOf (x : SV) (Ω : Om) (Φ : PhiE) : Prop := match x with
  | .d (.tuple ds) => Φ (.d (.tuple ds)) Ω
  | .l ds => Φ (.d (.tuple ds)) Ω
  | x => rdL x Ω fun ds => Φ (.d (.tuple ds)) Ω
abbrev acTupOf : AC := ac1 fTupOf
theorem jc_tupleOf : JC X G (.type "tuple") acTupOf := by
  refine ⟨_, call_tuple_of, ac1_ok fun {x Ω Φ} h {P F H v Q} o r k => ?_⟩
  have fin : ∀ {p : Addr} {vs : List V} {ds : List PyData}, DqAll X.K F vs ds → Φ (.d (.tuple ds)) Ω → ∀ l, H l = none → Q (.ref l) (upd H l (.tup vs)) := fun {p vs ds} da q l hl => by
    obtain ⟨o1, s1⟩ := o.newF (o := .tup vs) hl
    exact k q o1 s1 (Dq.tup (SqT.of upd_same) (dqa_same s1 _ _ da))
  unfold fTupOf at h
  split at h
  · obtain ⟨p, vs, rfl, hF, da⟩ := dqt r
    exact ⟨p, vs, rfl, Or.inr ⟨sqt_same o.ex hF, k h o (Same.refl F) r⟩⟩
  · obtain ⟨p, vs, rfl, hF, da⟩ := r
    exact ⟨p, vs, rfl, Or.inl ⟨o.ex.seq hF, fin (p := p) da h⟩⟩
  · obtain ⟨p, vs, ds, rfl, hs, da, q⟩ := rdL_ok h o r
    exact ⟨p, vs, rfl, Or.inl ⟨SqL.of hs, fin (p := p) da q⟩⟩
def fLstOf (m : Mode) (x : SV) (Ω : Om) (Φ : PhiE) : Prop := rdS x Ω fun ds => newL m ds Ω Φ
abbrev acLstOf (m : Mode) : AC := ac1 (fLstOf m)
theorem jc_listOf (hm : MOk (enX X G) m) : JC X G (.type "list") (acLstOf m) := by
  refine ⟨_, call_list_of, ac1_ok fun {x Ω Φ} h {P F H v Q} o r k => ?_⟩
  obtain ⟨p, vs, ds, rfl, hs, da, q⟩ := rdS_ok h o r
  exact ⟨p, vs, rfl, hs, fun l hl => newL_ok hm o da q k hl⟩
/-- list(range(n)), list(range(a, b)) -/
def rgD (a b : Int) : List PyData := (List.range (b - a).toNat).map fun i => PyData.int (a + (i : Nat))
theorem dqa_rg {K : Frag} {F : Hp} (a b : Int) : DqAll K F (rgV a b) (rgD a b) := by
  unfold rgV rgD
  generalize List.range (b - a).toNat = l
  induction l with
  | nil => exact .nil
  | cons i l ih => exact .cons (.int _) ih
abbrev ARg := Rho → Om → (Int → Int → Om → Prop) → Prop
def aRg1 (a : AE) : ARg := fun ρ Ω Φ => a ρ Ω fun x Ω' => match x with | .d (.int n) => Φ 0 n Ω' | _ => False
def aRg2 (a b : AE) : ARg := fun ρ Ω Φ => a ρ Ω fun x Ω1 => b ρ Ω1 fun y Ω2 => match x, y with | .d (.int i), .d (.int j) => Φ i j Ω2 | _, _ => False
structure SnRg (E : En) (te : L2.St → Hp → (Int → Int → Hp → Prop) → Prop) (a : ARg) : Prop where
  go : ∀ {ρ : Rho} {Ω : Om} {Φ : Int → Int → Om → Prop}, a ρ Ω Φ → ∀ {P F H : Hp} {σ : L2.St} {Q : Int → Int → Hp → Prop}, Ok E P F H Ω → RpE E.K F σ ρ →
    (∀ {i j : Int} {Ω' : Om} {F' H' : Hp}, Φ i j Ω' → Ok E P F' H' Ω' → Same F F' → Q i j H') → te σ H Q
def JRg (X : Cx) (G : Gn) (e : Expr) (a : ARg) : Prop := ∃ te, PRg X e te ∧ SnRg (enX X G) te a
theorem jrg_1 {p : Pos} (hg : Gl X "range") (hm : X.mg "range" = none) (ha : JE X G a aa) (na : starEach [a] X.env = (false, eval a X.env) :: starEach [] X.env := by rfl) : JRg X G (.Call (.Name "range" p) [a] [] pos) (aRg1 aa) := by
  obtain ⟨t, h1, h2⟩ := ha
  refine ⟨_, prg_1 hg hm h1 na, ⟨fun {ρ Ω Φ} h {P F H σ Q} o rp k => h2.go h o rp fun {v sv Ω1 F1 H1} q o1 s1 r1 => ?_⟩⟩
  dsimp only at q
  split at q
  · exact ⟨_, dqi r1, k q o1 s1⟩
  · exact q.elim
theorem jrg_2 {p : Pos} (hg : Gl X "range") (hm : X.mg "range" = none) (ha : JE X G a aa) (hb : JE X G b ab) (na : starEach [a, b] X.env = (false, eval a X.env) :: starEach [b] X.env := by rfl) (nb : starEach [b] X.env = (false, eval b X.env) :: starEach [] X.env := by rfl) (hp : (backTo pos (starEach [b] X.env)).any (·.1) = false := by rfl) : JRg X G (.Call (.Name "range" p) [a, b] [] pos) (aRg2 aa ab) := by
  obtain ⟨t, h1, h2⟩ := ha
  obtain ⟨u, h3, h4⟩ := hb
  refine ⟨_, prg_2 hg hm h1 h3 na nb hp, ⟨fun {ρ Ω Φ} h {P F H σ Q} o rp k => h2.go h o rp fun {v sv Ω1 F1 H1} q o1 s1 r1 => h4.go q o1 (rpe_same s1 rp) fun {v2 sv2 Ω2 F2 H2} q2 o2 s2 r2 => ?_⟩⟩
  dsimp only at q2
  split at q2
  · exact ⟨_, _, dqi (r1.same s2), dqi r2, k q2 o2 (s1.trans s2)⟩
  · exact q2.elim
def aLstRg (m : Mode) (a : ARg) : AE := fun ρ Ω Φ => a ρ Ω fun i j Ω' => RgOk i j ∧ newL m (rgD i j) Ω' Φ
theorem je_listRg {ar : ARg} {p : Pos} (hm : MOk (enX X G) m) (hc : X.calm = true) (hg : Gl X "list") (hmg : X.mg "list" = none) (ha : JRg X G e ar) (na : starEach [e] X.env = (false, eval e X.env) :: starEach [] X.env := by rfl) : JE X G (.Call (.Name "list" p) [e] [] pos) (aLstRg m ar) := by
  obtain ⟨t, h1, h2⟩ := ha
  exact ⟨_, pe_listRg hc hg hmg h1 na, ⟨fun {ρ Ω Φ} h {P F H σ Q} o rp k => h2.go h o rp fun {i j Ω1 F1 H1} q o1 s1 => ⟨q.1, fun p hp => newL_ok hm o1 (dqa_rg i j) q.2 (fun q2 o2 s2 r2 => k q2 o2 (s1.trans s2) r2) hp⟩⟩⟩
/-- sum, max, min of a list of ints; all, any of bools -/
def intsOf : List PyData → Option (List Int)
  | [] => some []
  | .int i :: r => match intsOf r with | some ns => some (i :: ns) | none => none
  | _ :: _ => none
theorem intsOf_ok : ∀ {ds : List PyData} {ns : List Int}, intsOf ds = some ns → ds = ns.map PyData.int
  | [], ns, h => by cases h; rfl
  | .int i :: r, ns, h => by
    unfold intsOf at h
    cases e : intsOf r with
    | none => rw [e] at h; cases h
    | some ms => rw [e] at h; cases h; rw [intsOf_ok e]; rfl
  | .none :: r, ns, h => by cases h
  | .bool b :: r, ns, h => by cases h
  | .str b :: r, ns, h => by cases h
  | .list b :: r, ns, h => by cases h
  | .tuple b :: r, ns, h => by cases h
  | .dict b :: r, ns, h => by cases h
def fSum (x : SV) (Ω : Om) (Φ : PhiE) : Prop := ∃ ns : List Int, rdS x Ω fun ds => (match x with | .d (.tuple _) => False | _ => True) ∧ ds = ns.map PyData.int ∧ Φ (.d (.int ns.sum)) Ω
theorem rdL_of_S {x : SV} {Ω : Om} {k : List PyData → Prop} (h : rdS x Ω fun ds => (match x with | .d (.tuple _) => False | _ => True) ∧ k ds) {E : En} {P F H : Hp} {v : V} (o : Ok E P F H Ω) (r : Rp E.K F v x) :
    ∃ a vs ds, v = .ref a ∧ SqL E.K H a vs ∧ DqAll E.K F vs ds ∧ k ds := by
  obtain ⟨a, vs, ds, rfl, hs, da, h1, h2⟩ := rdS_ok h o r
  rcases hs with hs | hs
  · exact ⟨a, vs, ds, rfl, hs, da, h2⟩
  · unfold rdS at h
    split at h
    · obtain ⟨a', xs, e, hF, ha⟩ := dql r
      cases e
      exact ⟨_, xs, _, rfl, SqL.of (o.ex _ _ hF), ha, h.2⟩
    · exact h1.elim
    · obtain ⟨a', xs, e, hF, ha⟩ := r
      cases e
      exact ⟨_, xs, _, rfl, o.ex.seq hF, ha, h.2⟩
    · obtain ⟨ds', f, t, hk⟩ := h
      obtain ⟨vs', h1, h2⟩ := o.lst t
      cases r
      exact ⟨_, vs', _, rfl, SqL.of h1, h2, hk.2⟩
    · exact h.elim
theorem jc_sum (hc : X.calm = true) : JC X G (.builtin "sum") (ac1 fSum) := by
  refine ⟨_, cr_sum hc, ac1_ok fun {x Ω Φ} h {P F H v Q} o r k => ?_⟩
  obtain ⟨ns, h⟩ := h
  obtain ⟨a, vs, ds, rfl, hs, da, rfl, q⟩ := rdL_of_S h o r
  rw [dqa_ints da] at hs
  exact ⟨a, ns, rfl, hs, k q o (Same.refl F) (.int _)⟩
def fAll (x : SV) (Ω : Om) (Φ : PhiE) : Prop := ∃ bs : List Bool, rdS x Ω fun ds => (match x with | .d (.tuple _) => False | _ => True) ∧ ds = bs.map PyData.bool ∧ Φ (.d (.bool (bs.all id))) Ω
def fAny (x : SV) (Ω : Om) (Φ : PhiE) : Prop := ∃ bs : List Bool, rdS x Ω fun ds => (match x with | .d (.tuple _) => False | _ => True) ∧ ds = bs.map PyData.bool ∧ Φ (.d (.bool (bs.any id))) Ω
theorem jc_all (hc : X.calm = true) : JC X G (.builtin "all") (ac1 fAll) := by
  refine ⟨_, cr_all hc, ac1_ok fun {x Ω Φ} h {P F H v Q} o r k => ?_⟩
  obtain ⟨ns, h⟩ := h
  obtain ⟨a, vs, ds, rfl, hs, da, rfl, q⟩ := rdL_of_S h o r
  rw [dqa_bools da] at hs
  exact ⟨a, ns, rfl, hs, k q o (Same.refl F) (.bl _)⟩
theorem jc_any (hc : X.calm = true) : JC X G (.builtin "any") (ac1 fAny) := by
  refine ⟨_, cr_any hc, ac1_ok fun {x Ω Φ} h {P F H v Q} o r k => ?_⟩
  obtain ⟨ns, h⟩ := h
  obtain ⟨a, vs, ds, rfl, hs, da, rfl, q⟩ := rdL_of_S h o r
  rw [dqa_bools da] at hs
  exact ⟨a, ns, rfl, hs, k q o (Same.refl F) (.bl _)⟩
/-- sorted of ints -/
def fSorted (m : Mode) (x : SV) (Ω : Om) (Φ : PhiE) : Prop := ∃ ns : List Int, rdS x Ω fun ds => (match x with | .d (.tuple _) => False | _ => True) ∧ ds = ns.map PyData.int ∧ ∀ ms : List Int, ms.Perm ns → ms.Pairwise (· ≤ ·) → newL m (ms.map PyData.int) Ω Φ
theorem jc_sorted (hm : MOk (enX X G) m) : JC X G (.builtin "sorted") (ac1 (fSorted m)) := by
  refine ⟨_, cr_sortedI, ac1_ok fun {x Ω Φ} h {P F H v Q} o r k => ?_⟩
  obtain ⟨ns, h⟩ := h
  obtain ⟨a, vs, ds, rfl, hs, da, rfl, q⟩ := rdL_of_S h o r
  rw [dqa_ints da] at hs
  exact ⟨a, ns, rfl, hs, fun ms p h1 h2 hp => newL_ok hm o (ints_dqa ms) (q ms h1 h2) k hp⟩
/-- isinstance(x, T) for a built-in T -/
def tyD : SV → Option String
  | .d .none => some "NoneType"
  | .d (.bool _) => some "bool"
  | .d (.int _) => some "int"
  | .d (.str _) => some "str"
  | .d (.list _) => some "list"
  | .d (.tuple _) => some "tuple"
  | .d (.dict _) => some "dict"
  | _ => none
theorem tyX_of {E : En} {P F H : Hp} {Ω : Om} (o : Ok E P F H Ω) : ∀ {x : SV} {v : V} {t : String}, Rp E.K F v x → tyD x = some t → TyX E.K H v (.type t)
  | .d .none, v, t, r, e => by cases dqn r; cases e; exact .base .non
  | .d (.bool b), v, t, r, e => by cases dqb r; cases e; exact .base (.bl b)
  | .d (.int b), v, t, r, e => by cases dqi r; cases e; exact .base (.int b)
  | .d (.str b), v, t, r, e => by cases dqs r; cases e; exact .base (.str b)
  | .d (.list b), v, t, r, e => by
    obtain ⟨a, xs, rfl, hF, _⟩ := dql r
    cases e
    exact .base (.lst (o.ex _ _ hF))
  | .d (.tuple b), v, t, r, e => by
    obtain ⟨a, xs, rfl, hF, _⟩ := dqt r
    cases e
    rcases sqt_same o.ex hF with (h | ⟨ob, h⟩) | ⟨ob, its, n, h, hc, _⟩
    · exact .base (.tup h)
    · exact .fTuple h
    · exact .kTuple h hc
  | .d (.dict b), v, t, r, e => by
    cases r with
    | dct h _ => cases e; exact .base (.dK (o.ex _ _ h))
  | .l ds, v, t, r, e => by cases e
  | .r u, v, t, r, e => by cases e
def fIsi (x y : SV) (Ω : Om) (Φ : PhiE) : Prop := match y with
  | .r (.ty n) => ∃ t b, tyD x = some t ∧ L2.kitB t n = some b ∧ Φ (.d (.bool b)) Ω
  | _ => False
theorem jc_isi : JC X G (.builtin "isinstance") (ac2 fIsi) := by
  refine ⟨_, call_isi, ac2_ok fun {x y Ω Φ} h {P F H v u Q} o r1 r2 k => ?_⟩
  unfold fIsi at h
  split at h
  · obtain ⟨t, b, h1, h2, h3⟩ := h
    cases (show u = _ from r2)
    exact ⟨_, _, _, _, b, rfl, ClsV.ty _, tyX_of o r1 h1, kit_ty h2, k h3 o (Same.refl F) (.bl b)⟩
  · exact h.elim
/-- math.gcd -/
theorem jc_gcd : JC X G (.builtin "math.gcd") (ac2 (fI2 fun i j => ((Nat.gcd i.natAbs j.natAbs : Nat) : Int))) := by
  refine ⟨_, cr_gcd, ac2_ok fun {x y Ω Φ} h {P F H v u Q} o r1 r2 k => ?_⟩
  unfold fI2 at h
  split at h
  · cases dqi r1; cases dqi r2; exact ⟨_, _, rfl, k h o (Same.refl F) (.int _)⟩
  · exact h.elim
/-- repr of data -/
def fRepr (x : SV) (Ω : Om) (Φ : PhiE) : Prop := rdD x Ω fun d => d.showable = true ∧ d.hasDict = false ∧ d.depth ≤ 60 ∧ d.shown.length ≤ sizeLine ∧ Φ (.d (.str d.shown)) Ω
theorem call_reprD (hu : X.A.units + 64 < cLine) (hgd : X.A.guards = some []) : CallR X (.builtin "repr") (fun xs H Q => ∃ v d, xs = [v] ∧ Dp X.K H v d ∧ d.showable = true ∧ d.hasDict = false ∧ d.depth ≤ 60 ∧ d.shown.length ≤ sizeLine ∧ Q (.str d.shown) H) := by
  intro pins s σ H xs us Q I r h
  obtain ⟨v, d, rfl, hd, h1, h2, h3, h4, q⟩ := h
  obtain ⟨u, rfl, ru⟩ := vals1 r
  have big : ∀ {p : Addr} {as : List Addr}, Reads s.heap (.ref p) d as → u = .ref p → wpAny (model X.prog X.w) X.A (call (.builtin "repr") [u]) (EP X pins σ Q) X.xe s := fun {p as} rd e => by
    rw [e]
    exact repr_of_reads' rd h1 (PyData.noDict_hsm h2) hgd (by omega) (fun _ _ e => e) (fun h' u tk hk => ⟨.str d.shown, H, I.kept hk, ⟨_, rfl⟩, q⟩) h4
  cases d with
  | none =>
    cases hd
    cases ru
    exact PySem.P.repr_of_none ⟨.str _, H, I.tok _, ⟨_, rfl⟩, by simpa only [PyData.shown] using q⟩
  | bool b =>
    cases hd
    cases ru
    exact PySem.P.repr_of_bool ⟨.str _, H, I.tok _, ⟨_, rfl⟩, by simpa only [PyData.shown] using q⟩
  | int i =>
    cases hd
    obtain ⟨t, rfl⟩ := ru
    exact PySem.P.repr_of_int (by simpa [PyData.showable] using h1) ⟨.str _, H, I.tok _, ⟨_, rfl⟩, by simpa only [PyData.shown] using q⟩
  | str x =>
    cases hd
    obtain ⟨t, rfl⟩ := ru
    exact PySem.P.repr_of_str ⟨.str _, H, I.tok _, ⟨_, rfl⟩, by simpa only [PyData.shown] using q⟩ (by simpa only [PyData.shown] using h4)
  | list ds =>
    obtain ⟨as, rd⟩ := Dp.reads I _ v u hd ru
    cases hd with
    | lst _ _ => cases ru; exact big rd rfl
  | tuple ds =>
    obtain ⟨as, rd⟩ := Dp.reads I _ v u hd ru
    cases hd with
    | tup _ _ => cases ru; exact big rd rfl
  | dict kvs => cases hd
theorem jc_repr (hu : X.A.units + 64 < cLine) (hgd : X.A.guards = some []) : JC X G (.builtin "repr") (ac1 fRepr) := by
  refine ⟨_, call_reprD hu hgd, ac1_ok fun {x Ω Φ} h {P F H v Q} o r k => ?_⟩
  obtain ⟨d, hd, -, h1, h2, h3, h4, q⟩ := rdD_ok2 h o r
  exact ⟨v, d, rfl, hd h2, h1, h2, h3, h4, k q o (Same.refl F) (.str _)⟩
/-! ### methods of lists -/
def isLs (x : SV) (Ω : Om) : Prop := match x with
  | .d (.list _) => True
  | .r (.ref a) => ∃ c f, At Ω a c f ∧ (match c with | .lst _ => True | .lx _ => True | _ => False)
  | _ => False
theorem isLs_ok {E : En} {P F H : Hp} {Ω : Om} {x : SV} {v : V} (h : isLs x Ω) (o : Ok E P F H Ω) (r : Rp E.K F v x) : tyV E.K "list" v H := by
  unfold isLs at h
  split at h
  · obtain ⟨a, xs, rfl, hF, _⟩ := dql r
    exact Or.inl ⟨rfl, _, SqL.of (o.ex _ _ hF)⟩
  · obtain ⟨c, f, t, hc⟩ := h
    cases (show v = _ from r)
    split at hc
    · obtain ⟨vs, h1, _⟩ := o.lst t
      exact Or.inl ⟨rfl, _, SqL.of h1⟩
    · obtain ⟨vs, h1, _⟩ := o.lx t
      exact Or.inl ⟨rfl, _, SqL.of h1⟩
    · exact hc.elim
  · exact h.elim
def aMl (am : AM) (a : AE) (t : AA) : AE := fun ρ Ω Φ => a ρ Ω fun x Ω1 => isLs x Ω1 ∧ t ρ Ω1 fun xs Ω2 => am x xs Ω2 Φ
def aMl0 (am : AM) (a : AE) : AE := fun ρ Ω Φ => a ρ Ω fun x Ω1 => isLs x Ω1 ∧ am x [] Ω1 Φ
theorem je_ml {name : Str} {id : String} {am : AM} {es : List Expr} {apos cpos : Pos} (slot : Slot "list" name id) (hty : typeOf (.builtin id) = pure (.type "method_descriptor")) (hm : JM X G id am) (ha : JE X G a aa) (ht : JA X G (e :: es) ta)
    (hbase : attributeBase a name X.env (eval a X.env) = eval a X.env := by rfl)
    (hfew : ((backTo cpos (starEach (e :: es) X.env)).all (fun x => !x.1) && (backToKw cpos (keywordEach [] X.env)).all (fun x => x.1.isSome)
      && decide ((e :: es).length + ([] : List Keyword).length + (if ([] : List Keyword).isEmpty then 0 else 1) < 30)) = true := by rfl)
    (hline : (apos.endLine == cpos.line) = true := by rfl) (hs : starEach (e :: es) X.env = (false, eval e X.env) :: starEach es X.env := by rfl) (hplain : (backTo cpos (starEach es X.env)).any (·.1) = false := by rfl) :
    JE X G (.Call (.Attribute a name apos) (e :: es) [] cpos) (aMl am aa ta) := by
  obtain ⟨r, h1, h2⟩ := hm
  obtain ⟨t, h3, h4⟩ := ha
  obtain ⟨u, h5, h6⟩ := ht
  refine ⟨_, pe_bm PySem.F.plainAttrs_list slot hty h1 h3 h5 hbase hfew hline hs hplain, ⟨fun {ρ Ω Φ} h {P F H σ Q} o rp k => h4.go h o rp fun {v sv Ω1 F1 H1} q o1 s1 r1 => ⟨isLs_ok q.1 o1 r1, ?_⟩⟩⟩
  exact h6.go q.2 o1 (rpe_same s1 rp) fun q2 o2 s2 r2 => h2.go q2 o2 (r1.same s2) r2 fun q3 o3 s3 r3 => k q3 o3 ((s1.trans s2).trans s3) r3
theorem je_ml0 {name : Str} {id : String} {am : AM} {apos cpos : Pos} (slot : Slot "list" name id) (hty : typeOf (.builtin id) = pure (.type "method_descriptor")) (hm : JM X G id am) (ha : JE X G a aa)
    (hbase : attributeBase a name X.env (eval a X.env) = eval a X.env := by rfl) (hline : (apos.endLine == cpos.line) = true := by rfl) : JE X G (.Call (.Attribute a name apos) [] [] cpos) (aMl0 am aa) := by
  obtain ⟨r, h1, h2⟩ := hm
  obtain ⟨t, h3, h4⟩ := ha
  refine ⟨_, pe_bm0 PySem.F.plainAttrs_list slot hty h1 h3 hbase hline, ⟨fun {ρ Ω Φ} h {P F H σ Q} o rp k => h4.go h o rp fun {v sv Ω1 F1 H1} q o1 s1 r1 => ⟨isLs_ok q.1 o1 r1, ?_⟩⟩⟩
  exact h2.go q.2 o1 r1 .nil fun q3 o3 s3 r3 => k q3 o3 (s1.trans s3) r3
/-- xs.append(y) -/
def amAppend : AM := fun x xs Ω Φ => match x, xs with
  | .r (.ref p), [y] => ∃ c f, At Ω p c f ∧ (match c, y with
    | .lst ds, .d d => ds.length < sizeLine ∧ Φ (.d .none) (f (.lst (ds ++ [d])))
    | .lx ys, y => ys.length < sizeLine ∧ Φ (.d .none) (f (.lx (ys ++ [y])))
    | .lst ds, y => ds.length < sizeLine ∧ Φ (.d .none) (f (.lx (ds.map SV.d ++ [y])))
    | _, _ => False)
  | _, _ => False
theorem jm_append : JM X G "list.append" amAppend := by
  refine ⟨_, mt_append, ⟨fun {x xs Ω Φ} h {P F H v vs Q} o r rs k => ?_⟩⟩
  unfold amAppend at h
  split at h
  · rename_i p y
    obtain ⟨c, f, t, h⟩ := h
    cases (show v = _ from r)
    obtain ⟨u, rfl, ru⟩ := pr1 rs
    split at h
    · obtain ⟨ws, h1, h2⟩ := o.lst t
      exact ⟨p, ws, u, rfl, rfl, h1, by rw [dqa_len h2]; exact h.1, k h.2 (o.put t (dqa_app h2 (.cons ru .nil))) (Same.refl F) .non⟩
    · obtain ⟨ws, h1, h2⟩ := o.lx t
      exact ⟨p, ws, u, rfl, rfl, h1, by rw [h2.length]; exact h.1, k h.2 (o.put t (pr_app h2 (.cons ru .nil))) (Same.refl F) .non⟩
    · obtain ⟨ws, h1, h2⟩ := o.lst t
      exact ⟨p, ws, u, rfl, rfl, h1, by rw [dqa_len h2]; exact h.1, k h.2 (o.put t (pr_app (of_dqa h2) (.cons ru .nil))) (Same.refl F) .non⟩
    · exact h.elim
  · exact h.elim
/-- xs.pop(), xs.pop(i) -/
def amPop : AM := fun x xs Ω Φ => match x, xs with
  | .r (.ref p), [] => ∃ ds f, At Ω p (.lst ds) f ∧ ∃ d, ds[ds.length - 1]? = some d ∧ Φ (.d d) (f (.lst ds.dropLast))
  | .r (.ref p), [.d (.int i)] => ∃ ds f, At Ω p (.lst ds) f ∧ ∃ d, 0 ≤ i ∧ i < 2 ^ 63 ∧ ds[i.toNat]? = some d ∧ Φ (.d d) (f (.lst (ds.eraseIdx i.toNat)))
  | _, _ => False
theorem dqa_dropLast {K : Frag} {F : Hp} {vs : List V} {ds : List PyData} (h : DqAll K F vs ds) : DqAll K F vs.dropLast ds.dropLast := by
  rw [List.dropLast_eq_take, List.dropLast_eq_take, dqa_len h]
  exact dqa_take _ h
theorem jm_pop : JM X G "list.pop" amPop := by
  refine ⟨_, MtR.or mt_pop mt_popAt, ⟨fun {x xs Ω Φ} h {P F H v vs Q} o r rs k => ?_⟩⟩
  unfold amPop at h
  split at h
  · obtain ⟨ds, f, t, d, e, q⟩ := h
    cases (show v = _ from r)
    cases rs
    obtain ⟨ws, h1, h2⟩ := o.lst t
    obtain ⟨u, e2, ru⟩ := dqa_get h2 e
    rw [← dqa_len h2] at e2
    exact Or.inl ⟨_, ws, u, rfl, rfl, h1, e2, k q (o.put t (dqa_dropLast h2)) (Same.refl F) ru⟩
  · rename_i p i
    obtain ⟨ds, f, t, d, h0, h63, e, q⟩ := h
    cases (show v = _ from r)
    obtain ⟨u, rfl, ru⟩ := pr1 rs
    cases dqi ru
    obtain ⟨ws, h1, h2⟩ := o.lst t
    obtain ⟨u, e2, ru⟩ := dqa_get h2 e
    have hlt : i.toNat < ws.length := (List.getElem?_eq_some_iff.mp e2).1
    exact Or.inr ⟨_, ws, i, i.toNat, u, rfl, rfl, h1, by omega, h63, by first | exact seqIndex_of h0 (by omega) | (unfold seqIndex?; simp; omega), e2, k q (o.put t (dqa_erase _ h2)) (Same.refl F) ru⟩
  · exact h.elim
/-- xs.extend(ys) -/
def amExtend : AM := fun x xs Ω Φ => match x, xs with
  | .r (.ref p), [y] => ∃ ds f, At Ω p (.lst ds) f ∧ rdL y Ω fun es => ds.length + es.length ≤ sizeLine ∧ Φ (.d .none) (f (.lst (ds ++ es)))
  | _, _ => False
theorem jm_extend : JM X G "list.extend" amExtend := by
  refine ⟨_, mt_extend, ⟨fun {x xs Ω Φ} h {P F H v vs Q} o r rs k => ?_⟩⟩
  unfold amExtend at h
  split at h
  · obtain ⟨ds, f, t, h⟩ := h
    cases (show v = _ from r)
    obtain ⟨u, rfl, ru⟩ := pr1 rs
    obtain ⟨ws, h1, h2⟩ := o.lst t
    obtain ⟨b, us, es, rfl, h3, h4, h5, q⟩ := rdL_ok h o ru
    exact ⟨_, b, ws, us, rfl, rfl, h1, h3, by rw [dqa_len h2, dqa_len h4]; exact h5, k q (o.put t (dqa_app h2 h4)) (Same.refl F) .non⟩
  · exact h.elim
end
end Z
/-! Z5: calls of defs by contracts; what a for walks; targets; statements; comprehensions; a def by its body. -/
namespace Z
open PySem PySem.Spec PyProof.Rows L2
/-! ### contracts -/
abbrev XI := Value × Option (List (Str × SV))
abbrev XA := XI → Om → Prop
abbrev Con := List SV → Om → PhiE → XA → Prop
def RpX (K : Frag) (F H : Hp) (cls : Value) (d : Option Addr) (x : XI) : Prop := cls = x.1 ∧ match d, x.2 with
  | none, none => True
  | some a, some fs => ∃ gs, H a = some (.xd gs) ∧ Paired (fun p q => p.1 = q.1 ∧ Rp K F p.2 q.2) gs fs
  | _, _ => False
def spOf (K : Frag) (T : Con) : Sp := fun vs H Q Ex => ∃ (P F : Hp) (Ω : Om) (svs : List SV) (Φ : PhiE) (Ξ : XA), Ok ⟨⟨F, H, P⟩, K⟩ P F H Ω ∧ Paired (Rp K F) vs svs ∧ T svs Ω Φ Ξ ∧
  (∀ v sv Ω' P' F' H', Φ sv Ω' → Ok ⟨⟨F, H, P⟩, K⟩ P' F' H' Ω' → Rp K F' v sv → Q v H') ∧ (∀ x Ω' P' F' H' cls d, Ξ x Ω' → Ok ⟨⟨F, H, P⟩, K⟩ P' F' H' Ω' → RpX K F' H' cls d x → Ex cls d H')
abbrev Ari (T : Con) (n : Nat) : Prop := ∀ svs Ω Φ Ξ, T svs Ω Φ Ξ → svs.length = n
/-- no exception is wished for -/
abbrev xno : Rho → XA := fun _ _ _ => False
def XOk (X : Cx) (G : Gn) (E : L2.St → XK) (Ξ : Rho → XA) : Prop := ∀ {σ : L2.St} {ρ : Rho} {x : XI} {Ω : Om} {P F H : Hp} {cls : Value} {d : Option Addr}, Ξ ρ x Ω → Ok (enX X G) P F H Ω → RpE X.K F σ ρ → RpX X.K F H cls d x → E σ cls d H
theorem xok0 {X : Cx} {G : Gn} {E : L2.St → XK} : XOk X G E xno := fun h => h.elim
section
variable {X : Cx} {G : Gn} {e a b : Expr} {aa ab : AE} {at_ bt : AT} {ta tb : AA} {pos : Pos} {m : Mode}
variable {CX : CXT} {k : Nat} {f : Addr} {fd : FuncData} {ps ks : List Str} {T : Con} {E : L2.St → XK} {Ξ : Rho → XA} {x : Str} {p : Pos} {es : List Expr} {kws : List Keyword}
def aCall (T : Con) (Ξ : Rho → XA) (t : AA) : AE := fun ρ Ω Φ => t ρ Ω fun svs Ω' => T svs Ω' Φ (Ξ ρ)
theorem enter_sp {P F H : Hp} {Ω : Om} {vs : List V} {svs : List SV} {Φ : PhiE} {Q : VK} {σ : L2.St} {ρ : Rho} (o : Ok (enX X G) P F H Ω) (r : Paired (Rp X.K F) vs svs) (rp : RpE X.K F σ ρ) (hE : XOk X G E Ξ) (h : T svs Ω Φ (Ξ ρ))
    (k : Aft (enX X G) P F Φ Q) : spOf X.K T vs H Q (E σ) := by
  refine ⟨P, F, Ω, svs, Φ, Ξ ρ, o.enter, r, h, fun v sv Ω' P' F' H' q o' r' => k q (o.leave o') o'.f0 r', fun x Ω' P' F' H' cls d q o' r' => ?_⟩
  exact hE q (o.leave o') (rpe_same o'.f0 rp) r'
theorem je_call (F : FnG X.prog X.w X.K X.mg X.base CX k f fd ps (spOf X.K T)) (hr : Room k X.A) (hgd : X.A.guards = some []) (hg : Gl X x) (hm : X.mg x = some (.ref f)) (hk : PySem.W.keepIn X.K (.ref f) = true)
    (hb : Binds X.K fd ps []) (hx : ∀ σ, PassAt CX X σ (E σ)) (hE : XOk X G E Ξ) (ha : JA X G (e :: es) ta) (hdb : (x == ("__debug__" : Str)) = false := by decide)
    (he : starEach (e :: es) X.env = (false, eval e X.env) :: starEach es X.env := by rfl) (hpl : (backTo pos (starEach es X.env)).any (·.1) = false := by rfl) :
    JE X G (.Call (.Name x p) (e :: es) [] pos) (aCall T Ξ ta) := by
  obtain ⟨t, h1, h2⟩ := ha
  exact ⟨_, pg_call F hr hgd hg hm hk hb hx h1 hdb he hpl, ⟨fun {ρ Ω Φ} h {P F H σ Q} o rp k => h2.go h o rp fun q o1 s1 r1 => enter_sp o1 r1 (rpe_same s1 rp) hE q fun q2 o2 s2 r2 => k q2 o2 (s1.trans s2) r2⟩⟩
theorem je_call0 (F : FnG X.prog X.w X.K X.mg X.base CX k f fd ps (spOf X.K T)) (hr : Room k X.A) (hgd : X.A.guards = some []) (hg : Gl X x) (hm : X.mg x = some (.ref f)) (hk : PySem.W.keepIn X.K (.ref f) = true)
    (hb : Binds X.K fd ps []) (hx : ∀ σ, PassAt CX X σ (E σ)) (hE : XOk X G E Ξ) (hdb : (x == ("__debug__" : Str)) = false := by decide) : JE X G (.Call (.Name x p) [] [] pos) (aCall T Ξ aNil) :=
  ⟨_, pg_call0 F hr hgd hg hm hk hb hx hdb, ⟨fun {ρ Ω Φ} h {P F H σ Q} o rp k => enter_sp o .nil rp hE h k⟩⟩
/-! ### calls with keywords: π tells where each parameter's value stands among the positional ones and the keywords' -/
def gP {α : Type} (d : α) (n m : Nat) (π : List Nat) (us ws : List α) : List α := if us.length = n ∧ ws.length = m then π.map fun i => (us ++ ws).getD i d else []
def KArg (K : Frag) (fd : FuncData) (ps ks : List Str) (n : Nat) (π : List Nat) : Prop := ∀ (s : Shared) (us ws : List Value), K.In s.heap → us.length = n → ws.length = ks.length → BindsTo s fd ⟨us, ks.zip ws⟩ (ps.zip (π.map fun i => (us ++ ws).getD i .none))
theorem vals_gP {n m : Nat} {π : List Nat} {vs zs : List V} {us ws : List Value} (r : Vals vs us) (rz : Vals zs ws) : Vals (gP .non n m π vs zs) (gP .none n m π us ws) := by
  unfold gP
  rw [r.length, rz.length]
  split
  · have q := r.append rz
    induction π with
    | nil => exact .nil
    | cons i π ih =>
      refine .cons ?_ ih
      show RelV ((vs ++ zs).getD i .non) ((us ++ ws).getD i .none)
      cases e : (vs ++ zs)[i]? with
      | none =>
        rw [List.getD_eq_getElem?_getD, List.getD_eq_getElem?_getD, e, q.none_of e]
        rfl
      | some v =>
        obtain ⟨u, hu, ru⟩ := q.get e
        rw [List.getD_eq_getElem?_getD, List.getD_eq_getElem?_getD, e, hu]
        exact ru
  · exact .nil
theorem rp_gP {K : Frag} {F : Hp} {n m : Nat} {π : List Nat} {vs zs : List V} {us ws : List SV} (r : Paired (Rp K F) vs us) (rz : Paired (Rp K F) zs ws) : Paired (Rp K F) (gP .non n m π vs zs) (gP (.d .none) n m π us ws) := by
  unfold gP
  rw [r.length, rz.length]
  split
  · have q := pr_app r rz
    induction π with
    | nil => exact .nil
    | cons i π ih =>
      refine .cons ?_ ih
      show Rp K F ((vs ++ zs).getD i .non) ((us ++ ws).getD i (.d .none))
      cases e : (us ++ ws)[i]? with
      | none =>
        have e2 : (vs ++ zs)[i]? = none := by
          have hl := q.length
          have := List.getElem?_eq_none_iff.mp e
          exact List.getElem?_eq_none_iff.mpr (by omega)
        rw [List.getD_eq_getElem?_getD, List.getD_eq_getElem?_getD, e, e2]
        exact Dq.non
      | some v =>
        obtain ⟨u, hu, ru⟩ := pr_get q e
        rw [List.getD_eq_getElem?_getD, List.getD_eq_getElem?_getD, e, hu]
        exact ru
  · exact .nil
theorem fin_callK {sp : Sp} {n : Nat} {π : List Nat} {pins : List (Addr × Obj)} {σ : L2.St} {H : Hp} {s : Shared} {Q : VK} {us ws : List Value} {vs zs : List V} (F : FnG X.prog X.w X.K X.mg X.base CX k f fd ps sp) (hr : Room k X.A) (hgd : X.A.guards = some [])
    (hb : KArg X.K fd ps ks n π) (hπ : 0 < ps.length) (hx : PassAt CX X σ (E σ)) (I : Inv X pins σ H s) (r : Vals vs us) (rz : Vals zs ws) (h : sp (gP .non n ks.length π vs zs) H Q (E σ)) :
    wpAny (model X.prog X.w) X.A (PySem.call (.ref f) us (ks.zip ws)) (EP X pins σ Q) X.xe s := by
  refine wp_of_code (runG (us := gP .none n ks.length π us ws) F hr hgd hx I (fun hl => ?_) (vals_gP r rz) h)
  by_cases hc : us.length = n ∧ ws.length = ks.length
  · have e : gP Value.none n ks.length π us ws = π.map fun i => (us ++ ws).getD i .none := by unfold gP; rw [if_pos hc]
    rw [e]
    exact hb s us ws I.kIn hc.1 hc.2
  · have e : gP Value.none n ks.length π us ws = [] := by unfold gP; rw [if_neg hc]
    rw [e] at hl
    exact absurd hl (by simp; omega)
theorem pg_callK {sp : Sp} {t tk : TA} {n : Nat} {π : List Nat} (F : FnG X.prog X.w X.K X.mg X.base CX k f fd ps sp) (hr : Room k X.A) (hgd : X.A.guards = some []) (hg : Gl X x) (hm : X.mg x = some (.ref f)) (hk : PySem.W.keepIn X.K (.ref f) = true)
    (hb : KArg X.K fd ps ks n π) (hπ : 0 < ps.length) (hx : ∀ σ, PassAt CX X σ (E σ)) (ha : PA X (e :: es) t) (hkw : PK X kws tk)
    (hall : (backToKw pos (keywordEach kws X.env)).all (·.1.isSome) = true) (hks : (backToKw pos (keywordEach kws X.env)).filterMap (·.1) = ks) (hdb : (x == ("__debug__" : Str)) = false)
    (he : starEach (e :: es) X.env = (false, eval e X.env) :: starEach es X.env)
    (hpl : ((backTo pos (starEach (e :: es) X.env)).any (·.1) || (backToKw pos (keywordEach kws X.env)).any (·.1.isNone)) = false) : PE X (.Call (.Name x p) (e :: es) kws pos) (tCallGK sp (gP .non n ks.length π) E t tk) := by
  refine ⟨fun pins s σ H Q I h => wpAny_Call_Name_kw (ld_glob I hg hm (PySem.W.callWith_KW (h₀ := X.base) I.ok.mod.kin hk hall ?_ hpl he) hdb)⟩
  refine thn (ha.run pos pins s σ H _ I h) fun us s1 ⟨vs, H1, I1, r, q⟩ => thn (hkw.run pos pins s1 σ H1 _ I1 q) fun ws s2 ⟨zs, H2, I2, rz, q2⟩ => ⟨I2.kIn, ?_⟩
  rw [hks]
  exact fin_callK F hr hgd hb hπ (hx σ) I2 r rz q2
theorem pg_callK0 {sp : Sp} {tk : TA} {n : Nat} {π : List Nat} (F : FnG X.prog X.w X.K X.mg X.base CX k f fd ps sp) (hr : Room k X.A) (hgd : X.A.guards = some []) (hg : Gl X x) (hm : X.mg x = some (.ref f)) (hk : PySem.W.keepIn X.K (.ref f) = true)
    (hb : KArg X.K fd ps ks n π) (hπ : 0 < ps.length) (hx : ∀ σ, PassAt CX X σ (E σ)) (hkw : PK X kws tk)
    (hall : (backToKw pos (keywordEach kws X.env)).all (·.1.isSome) = true) (hks : (backToKw pos (keywordEach kws X.env)).filterMap (·.1) = ks) (hdb : (x == ("__debug__" : Str)) = false)
    (hpl : ((backTo pos (starEach [] X.env)).any (·.1) || (backToKw pos (keywordEach kws X.env)).any (·.1.isNone)) = false) : PE X (.Call (.Name x p) [] kws pos) (tCallGK sp (gP .non n ks.length π) E tNil tk) := by
  refine ⟨fun pins s σ H Q I h => wpAny_Call_Name_kw (ld_glob I hg hm (PySem.W.callWith_KW0 (h₀ := X.base) I.ok.mod.kin hk hall ?_ hpl) hdb)⟩
  refine thn (hkw.run pos pins s σ H _ I h) fun ws s2 ⟨zs, H2, I2, rz, q2⟩ => ⟨I2.kIn, ?_⟩
  rw [hks]
  exact fin_callK (us := []) F hr hgd hb hπ (hx σ) I2 .nil rz q2
def aCallK (T : Con) (Ξ : Rho → XA) (n m : Nat) (π : List Nat) (t tk : AA) : AE := fun ρ Ω Φ => t ρ Ω fun xs Ω1 => tk ρ Ω1 fun zs Ω2 => T (gP (.d .none) n m π xs zs) Ω2 Φ (Ξ ρ)
theorem je_callK0 {n : Nat} {π : List Nat} (F : FnG X.prog X.w X.K X.mg X.base CX k f fd ps (spOf X.K T)) (hr : Room k X.A) (hgd : X.A.guards = some []) (hg : Gl X x) (hm : X.mg x = some (.ref f)) (hk : PySem.W.keepIn X.K (.ref f) = true)
    (hb : KArg X.K fd ps ks n π) (hπ : 0 < ps.length) (hx : ∀ σ, PassAt CX X σ (E σ)) (hE : XOk X G E Ξ) (hkw : JK X G kws tb)
    (hall : (backToKw pos (keywordEach kws X.env)).all (·.1.isSome) = true := by rfl) (hks : (backToKw pos (keywordEach kws X.env)).filterMap (·.1) = ks := by rfl) (hdb : (x == ("__debug__" : Str)) = false := by decide)
    (hpl : ((backTo pos (starEach [] X.env)).any (·.1) || (backToKw pos (keywordEach kws X.env)).any (·.1.isNone)) = false := by rfl) :
    JE X G (.Call (.Name x p) [] kws pos) (aCallK T Ξ n ks.length π aNil tb) := by
  obtain ⟨u, h3, h4⟩ := hkw
  exact ⟨_, pg_callK0 F hr hgd hg hm hk hb hπ hx h3 hall hks hdb hpl, ⟨fun {ρ Ω Φ} h {P F H σ Q} o rp k => h4.go h o rp fun q o1 s1 r1 => enter_sp o1 (rp_gP .nil r1) (rpe_same s1 rp) hE q fun q2 o2 s2 r2 => k q2 o2 (s1.trans s2) r2⟩⟩
theorem je_callK {n : Nat} {π : List Nat} (F : FnG X.prog X.w X.K X.mg X.base CX k f fd ps (spOf X.K T)) (hr : Room k X.A) (hgd : X.A.guards = some []) (hg : Gl X x) (hm : X.mg x = some (.ref f)) (hk : PySem.W.keepIn X.K (.ref f) = true)
    (hb : KArg X.K fd ps ks n π) (hπ : 0 < ps.length) (hx : ∀ σ, PassAt CX X σ (E σ)) (hE : XOk X G E Ξ) (ha : JA X G (e :: es) ta) (hkw : JK X G kws tb)
    (hall : (backToKw pos (keywordEach kws X.env)).all (·.1.isSome) = true := by rfl) (hks : (backToKw pos (keywordEach kws X.env)).filterMap (·.1) = ks := by rfl) (hdb : (x == ("__debug__" : Str)) = false := by decide)
    (he : starEach (e :: es) X.env = (false, eval e X.env) :: starEach es X.env := by rfl)
    (hpl : ((backTo pos (starEach (e :: es) X.env)).any (·.1) || (backToKw pos (keywordEach kws X.env)).any (·.1.isNone)) = false := by rfl) :
    JE X G (.Call (.Name x p) (e :: es) kws pos) (aCallK T Ξ n ks.length π ta tb) := by
  obtain ⟨t, h1, h2⟩ := ha
  obtain ⟨u, h3, h4⟩ := hkw
  exact ⟨_, pg_callK F hr hgd hg hm hk hb hπ hx h1 h3 hall hks hdb he hpl, ⟨fun {ρ Ω Φ} h {P F H σ Q} o rp k => h2.go h o rp fun q o1 s1 r1 => h4.go q o1 (rpe_same s1 rp) fun q2 o2 s2 r2 => enter_sp o2 (rp_gP (rps_same s2 r1) r2) (rpe_same (s1.trans s2) rp) hE q2 fun q3 o3 s3 r3 => k q3 o3 ((s1.trans s2).trans s3) r3⟩⟩
end
end Z
/-! Z6: what a for walks; targets; statements; a def by its body. -/
namespace Z
open PySem PySem.Spec PyProof.Rows L2
/-! ### targets -/
abbrev AG := SV → Rho → (Rho → Prop) → Prop
abbrev AGs := List SV → Rho → (Rho → Prop) → Prop
structure SnG (E : En) (g : TG) (ag : AG) : Prop where
  go : ∀ {x : SV} {ρ : Rho} {k : Rho → Prop}, ag x ρ k → ∀ {P F H : Hp} {Ω : Om} {v : V} {σ : L2.St} {Q : L2.St → Hp → Prop}, Ok E P F H Ω → RpE E.K F σ ρ → Rp E.K F v x → (∀ {σ' ρ'}, k ρ' → RpE E.K F σ' ρ' → Q σ' H) → g v σ H Q
structure SnGs (E : En) (g : TGs) (ag : AGs) : Prop where
  go : ∀ {xs : List SV} {ρ : Rho} {k : Rho → Prop}, ag xs ρ k → ∀ {P F H : Hp} {Ω : Om} {vs : List V} {σ : L2.St} {Q : L2.St → Hp → Prop}, Ok E P F H Ω → RpE E.K F σ ρ → Paired (Rp E.K F) vs xs → (∀ {σ' ρ'}, k ρ' → RpE E.K F σ' ρ' → Q σ' H) → g vs σ H Q
def JG (X : Cx) (G : Gn) (tg : Expr) (ag : AG) : Prop := ∃ g, PG X tg g ∧ SnG (enX X G) g ag
def JGs (X : Cx) (G : Gn) (tg : List Expr) (ag : AGs) : Prop := ∃ g, PGs X tg g ∧ SnGs (enX X G) g ag
def gN (i : Nat) : AG := fun x ρ k => k (ρ.set i (some x))
def gT (n : Nat) (gs : AGs) : AG := fun x ρ k => match x with
  | .d (.tuple ds) => ds.length = n ∧ gs (ds.map SV.d) ρ k
  | _ => False
def gs0 : AGs := fun xs ρ k => match xs with
  | [] => k ρ
  | _ => False
def gs1 (g : AG) (gs : AGs) : AGs := fun xs ρ k => match xs with
  | x :: r => g x ρ fun ρ' => gs r ρ' k
  | _ => False
/-! ### statements -/
structure AEnds where
  nx : Rho → Om → Prop
  rt : PhiE
  bk : Rho → Om → Prop := fun _ _ => False
  ct : Rho → Om → Prop := fun _ _ => False
abbrev AS := AEnds → Rho → Om → Prop
structure EndsOk (E : En) (P Fl : Hp) (D : AEnds) (D' : Ends) : Prop where
  nx : ∀ {ρ : Rho} {Ω : Om} {F H : Hp} {σ : L2.St}, D.nx ρ Ω → Ok E P F H Ω → Same Fl F → RpE E.K F σ ρ → D'.nx σ H
  rt : ∀ {x : SV} {Ω : Om} {F H : Hp} {v : V}, D.rt x Ω → Ok E P F H Ω → Same Fl F → Rp E.K F v x → D'.rt v H
  bk : ∀ {ρ : Rho} {Ω : Om} {F H : Hp} {σ : L2.St}, D.bk ρ Ω → Ok E P F H Ω → Same Fl F → RpE E.K F σ ρ → D'.bk σ H
  ct : ∀ {ρ : Rho} {Ω : Om} {F H : Hp} {σ : L2.St}, D.ct ρ Ω → Ok E P F H Ω → Same Fl F → RpE E.K F σ ρ → D'.ct σ H
theorem EndsOk.up {E : En} {P Fl Fm : Hp} {D : AEnds} {D' : Ends} (k : EndsOk E P Fl D D') (s : Same Fl Fm) : EndsOk E P Fm D D' :=
  ⟨fun q o z r => k.nx q o (s.trans z) r, fun q o z r => k.rt q o (s.trans z) r, fun q o z r => k.bk q o (s.trans z) r, fun q o z r => k.ct q o (s.trans z) r⟩
structure SnS (E : En) (ts : TS) (a : AS) : Prop where
  go : ∀ {D : AEnds} {ρ : Rho} {Ω : Om}, a D ρ Ω → ∀ {P F H : Hp} {σ : L2.St} {D' : Ends}, EndsOk E P F D D' → Ok E P F H Ω → RpE E.K F σ ρ → ts D' σ H
def JS (X : Cx) (G : Gn) (st : Stmt) (a : AS) : Prop := ∃ t, PS X st t ∧ SnS (enX X G) t a
def JSs (X : Cx) (G : Gn) (st : List Stmt) (a : AS) : Prop := ∃ t, PSs X st t ∧ SnS (enX X G) t a
/-! ### what is walked: the items, and what is to stand meanwhile -/
structure ItOk (E : En) (F0 : Hp) (J : It) (xs : List SV) (Kp : Om → Prop) : Prop where
  go : ∀ {i : Nat} {P F H : Hp} {Ω : Om}, Same F0 F → Ok E P F H Ω → Kp Ω → i < xs.length → J.go i H
  yl : ∀ {i : Nat} {P F H : Hp} {Ω : Om} {x : V} {H' : Hp} {y : SV}, Same F0 F → Ok E P F H Ω → Kp Ω → J.yld i H x H' → xs[i]? = some y → ∃ F', Ok E P F' H' Ω ∧ Same F F' ∧ Rp E.K F' x y
  st : ∀ {i : Nat} {P F H : Hp} {Ω : Om}, Same F0 F → Ok E P F H Ω → Kp Ω → xs.length ≤ i → J.stop i H
abbrev PhiI := List SV → (Om → Prop) → Om → Prop
abbrev AI := Rho → Om → PhiI → Prop
structure SnI (E : En) (wi : TI) (ai : AI) : Prop where
  go : ∀ {ρ : Rho} {Ω : Om} {Φ : PhiI}, ai ρ Ω Φ → ∀ {P F H : Hp} {σ : L2.St} {R : It → Hp → Prop}, Ok E P F H Ω → RpE E.K F σ ρ →
    (∀ {J : It} {xs : List SV} {Kp : Om → Prop} {Ω' : Om} {F' H' : Hp}, Φ xs Kp Ω' → Ok E P F' H' Ω' → Same F F' → ItOk E F' J xs Kp → R J H') → wi σ H R
def JI (X : Cx) (G : Gn) (tg iter : Expr) (ai : AI) : Prop := ∃ wi, PI X tg iter wi ∧ SnI (enX X G) wi ai
section
variable {X : Cx} {G : Gn} {e a b tg : Expr} {aa ab : AE} {at_ bt : AT} {ta tb : AA} {pos : Pos} {m : Mode} {g : AG} {gs : AGs} {s t : AS} {ai : AI}
theorem jg_name {i : Nat} {x : Str} (hN : X.N.Nodup) (hi : X.N[i]? = some x) (hx : Loc X.env.scope x) (hf : X.fn x = true ∨ X.env.scope.names.lookup x = some .local := by first | exact .inl rfl | exact .inr rfl | assumption) : JG X G (.Name x pos) (gN i) :=
  ⟨_, pg_name hN hi hx hf, ⟨fun {x ρ k} h {P F H Ω v σ Q} o rp r q => q h (pr_set (R := RpS X.K F) (y := some x) ⟨_, rfl, r⟩ i rp)⟩⟩
theorem jgs0 : JGs X G [] gs0 := by
  refine ⟨_, pgs_nil, ⟨fun {xs ρ k} h {P F H Ω vs σ Q} o rp r q => ?_⟩⟩
  unfold gs0 at h
  split at h
  · cases r
    exact ⟨rfl, q h rp⟩
  · exact h.elim
theorem jgs1 {es : List Expr} (h1 : JG X G e g) (h2 : JGs X G es gs) (hs : (assignEach (e :: es) X.env).map (·.2) = assign e X.env :: (assignEach es X.env).map (·.2) := by rfl) : JGs X G (e :: es) (gs1 g gs) := by
  obtain ⟨g', p1, q1⟩ := h1
  obtain ⟨u, p2, q2⟩ := h2
  refine ⟨_, pgs_cons p1 p2 hs, ⟨fun {xs ρ k} h {P F H Ω vs σ Q} o rp r q => ?_⟩⟩
  unfold gs1 at h
  split at h
  · cases r with
    | cons r1 r2 => exact ⟨_, _, rfl, q1.go h o rp r1 fun h' rp' => q2.go h' o rp' r2 q⟩
  · exact h.elim
theorem jg_tup {es : List Expr} {n k' : Nat} (hc : X.calm = true) (h : JGs X G es gs) (hn : (assignEach es X.env).length = n := by rfl) (hst : (assignEach es X.env).findIdx? (·.1) = none := by rfl) : JG X G (.Tuple es k' pos) (gT n gs) := by
  obtain ⟨u, p, q'⟩ := h
  refine ⟨_, pg_tup hc p hn hst, ⟨fun {x ρ k} h {P F H Ω v σ Q} o rp r q => ?_⟩⟩
  unfold gT at h
  split at h
  · obtain ⟨p, vs, rfl, hF, da⟩ := dqt r
    exact ⟨p, vs, rfl, sqt_same o.ex hF, by rw [dqa_len da]; exact h.1, q'.go h.2 o rp (of_dqa da) q⟩
  · exact h.elim
/-! ### what is walked -/
abbrev kpT : Om → Prop := fun _ => True
def kpAt (p : Addr) (c : OC) : Om → Prop := fun Ω => ∃ f, At Ω p c f
theorem itl_ok {E : En} {F0 : Hp} {p : Addr} {xs : List SV} {Kp : Om → Prop}
    (h : ∀ {P F H : Hp} {Ω : Om}, Same F0 F → Ok E P F H Ω → Kp Ω → ∃ vs, SqL E.K H p vs ∧ Paired (Rp E.K F) vs xs) : ItOk E F0 (Itl E.K p) xs Kp := by
  refine ⟨fun s o k hi => ?_, fun s o k y e => ?_, fun s o k hi => ?_⟩
  · obtain ⟨vs, h1, h2⟩ := h s o k
    obtain ⟨v, hv, _⟩ := pr_get h2 (List.getElem?_eq_getElem hi)
    exact ⟨vs, v, h1, hv⟩
  · obtain ⟨vs, h1, h2⟩ := h s o k
    obtain ⟨rfl, y2⟩ := y
    obtain ⟨v, hv, r⟩ := pr_get h2 e
    rw [y2 vs h1] at hv
    cases hv
    exact ⟨_, o, Same.refl _, r⟩
  · obtain ⟨vs, h1, h2⟩ := h s o k
    exact ⟨vs, h1, by rw [h2.length]; exact hi⟩
theorem itt_ok {E : En} {F0 : Hp} {p : Addr} {xs : List SV} {Kp : Om → Prop}
    (h : ∀ {P F H : Hp} {Ω : Om}, Same F0 F → Ok E P F H Ω → Kp Ω → ∃ vs, SqT E.K H p vs ∧ Paired (Rp E.K F) vs xs) : ItOk E F0 (Itt E.K p) xs Kp := by
  refine ⟨fun s o k hi => ?_, fun s o k y e => ?_, fun s o k hi => ?_⟩
  · obtain ⟨vs, h1, h2⟩ := h s o k
    obtain ⟨v, hv, _⟩ := pr_get h2 (List.getElem?_eq_getElem hi)
    exact ⟨vs, v, h1, hv⟩
  · obtain ⟨vs, h1, h2⟩ := h s o k
    obtain ⟨rfl, y2⟩ := y
    obtain ⟨v, hv, r⟩ := pr_get h2 e
    rw [y2 vs h1] at hv
    cases hv
    exact ⟨_, o, Same.refl _, r⟩
  · obtain ⟨vs, h1, h2⟩ := h s o k
    exact ⟨vs, h1, by rw [h2.length]; exact hi⟩
def seqI (x : SV) (Ω : Om) (Φ : PhiI) : Prop := match x with
  | .d (.list ds) => Φ (ds.map SV.d) kpT Ω
  | .d (.tuple ds) => Φ (ds.map SV.d) kpT Ω
  | .d (.str z) => Φ (z.cps.toList.map fun c => SV.d (.str ⟨#[c]⟩)) kpT Ω
  | .l ds => Φ (ds.map SV.d) kpT Ω
  | .r (.ref p) => ∃ c f, At Ω p c f ∧ (match c with
    | .lst ds => Φ (ds.map SV.d) (kpAt p (.lst ds)) Ω
    | .lx xs => Φ xs (kpAt p (.lx xs)) Ω
    | _ => False)
  | _ => False
def aIt (a : AE) : AI := fun ρ Ω Φ => a ρ Ω fun x Ω' => seqI x Ω' Φ
end
section
variable {X : Cx} {G : Gn} {e a b tg : Expr} {aa ab : AE} {at_ bt : AT} {ta tb : AA} {pos : Pos} {m : Mode} {g : AG} {gs : AGs} {s t : AS} {ai : AI}
/-- for x in e: e's reading is made once for each kind of thing walked -/
def iSeq (K : Frag) (tl : TE) : TI := fun σ H R => tl σ H fun x H1 => (∃ a, x = .ref a ∧ (∃ xs, SqL K H1 a xs) ∧ R (Itl K a) H1) ∨ (∃ a, x = .ref a ∧ (∃ xs, SqT K H1 a xs) ∧ R (Itt K a) H1) ∨ ∃ z, x = .str z ∧ R (Its z) H1
theorem pi_seq {l : Expr} {tl : TE} (hl : PE X l tl) : PI X tg l (iSeq X.K tl) := by
  refine ⟨fun pins s σ H R I h => thn (hl.run pins s σ H _ I h) fun v s1 ⟨x, H1, I1, r1, q⟩ => ?_⟩
  have fp : ∀ b ∈ [s1.heap.objs.size], FpOk X pins H1 b := fun b hb => by
    rw [List.mem_singleton.mp hb]
    exact I1.fpOk (Nat.le_refl _) (I1.hok.fresh (Nat.le_refl _))
  have kp : ∀ (ob : Obj), Inv X pins σ H1 { s1 with heap := s1.heap.push ob } := fun ob => I1.kept (t' := s1.toks) fun _ _ z => Heap.get?_push_of_some _ z
  rcases q with ⟨a, rfl, ⟨xs, hx⟩, q⟩ | ⟨a, rfl, ⟨xs, hx⟩, q⟩ | ⟨z, rfl, q⟩
  · cases r1
    obtain ⟨its, rv, p, hz⟩ := I1.list hx
    exact wpAny_pyIter_list p.isList ⟨_, [_], _, _, H1, rfl, kp _, turn_list a _, ⟨_, Heap.get?_push_size _ rfl, rfl, rfl⟩, fp, q⟩
  · cases r1
    obtain ⟨its, rv, p, hz⟩ := I1.tuple hx
    exact wpAny_pyIter_tuple (items := its.toArray) p ⟨_, [_], _, _, H1, rfl, kp _, turn_tuple a _, ⟨_, Heap.get?_push_size _ rfl, rfl, rfl⟩, fp, q⟩
  · obtain ⟨t, rfl⟩ := r1
    by_cases ha : z.cps.all (· < 128) = true
    · exact wpAny_pyIter_ascii ha (pi_one (tk := s1.toks) I1 _ (turn_str _ z t "str_ascii_iterator" (.inl rfl)) ⟨_, Heap.get?_push_size _ rfl, rfl, rfl⟩ q)
    · exact wpAny_pyIter_wide (by simpa using ha) (pi_one (tk := s1.toks) I1 _ (turn_str _ z t "str_iterator" (.inr rfl)) ⟨_, Heap.get?_push_size _ rfl, rfl, rfl⟩ q)
theorem its_ok {E : En} {F0 : Hp} {z : Str} : ItOk E F0 (Its z) (z.cps.toList.map fun c => SV.d (.str ⟨#[c]⟩)) kpT := by
  have hl : (z.cps.toList.map fun c => SV.d (.str ⟨#[c]⟩)).length = z.cps.size := by simp
  refine ⟨fun s o k hi => by rw [hl] at hi; exact hi, fun {i P F H Ω x H' y} s o k yy e => ?_, fun s o k hi => by rw [hl] at hi; exact hi⟩
  obtain ⟨rfl, c, hc, rfl⟩ := yy
  rw [List.getElem?_map, Array.getElem?_toList, hc] at e
  cases e
  exact ⟨F, o, Same.refl F, .str _⟩
theorem ji_of (ha : JE X G e aa) : JI X G tg e (aIt aa) := by
  obtain ⟨t, h1, h2⟩ := ha
  refine ⟨_, pi_seq h1, ⟨fun {ρ Ω Φ} h {P F H σ R} o rp k => h2.go h o rp fun {v sv Ω1 F1 H1} q o1 s1 r1 => ?_⟩⟩
  have q : seqI sv Ω1 Φ := q
  unfold seqI at q
  split at q
  · obtain ⟨p, vs, rfl, hF, da⟩ := dql r1
    exact Or.inl ⟨p, rfl, ⟨vs, SqL.of (o1.ex _ _ hF)⟩, k q o1 s1 (itl_ok fun s o _ => ⟨vs, SqL.of (o.ex _ _ (s _ _ hF)), of_dqa (dqa_same s _ _ da)⟩)⟩
  · obtain ⟨p, vs, rfl, hF, da⟩ := dqt r1
    exact Or.inr (Or.inl ⟨p, rfl, ⟨vs, sqt_same o1.ex hF⟩, k q o1 s1 (itt_ok fun s o _ => ⟨vs, sqt_same o.ex (sqt_same s hF), of_dqa (dqa_same s _ _ da)⟩)⟩)
  · cases dqs r1
    exact Or.inr (Or.inr ⟨_, rfl, k q o1 s1 its_ok⟩)
  · obtain ⟨p, vs, rfl, hF, da⟩ := r1
    exact Or.inl ⟨p, rfl, ⟨vs, o1.ex.seq hF⟩, k q o1 s1 (itl_ok fun s o _ => ⟨vs, o.ex.seq (s.seq hF), of_dqa (dqa_same s _ _ da)⟩)⟩
  · obtain ⟨c, f, t, q⟩ := q
    cases (show v = _ from r1)
    split at q
    · obtain ⟨vs, h3, h4⟩ := o1.lst t
      refine Or.inl ⟨_, rfl, ⟨vs, SqL.of h3⟩, k q o1 s1 (itl_ok fun s o kk => ?_)⟩
      obtain ⟨f', t'⟩ := kk
      obtain ⟨ws, h5, h6⟩ := o.lst t'
      exact ⟨ws, SqL.of h5, of_dqa h6⟩
    · obtain ⟨vs, h3, h4⟩ := o1.lx t
      refine Or.inl ⟨_, rfl, ⟨vs, SqL.of h3⟩, k q o1 s1 (itl_ok fun s o kk => ?_)⟩
      obtain ⟨f', t'⟩ := kk
      obtain ⟨ws, h5, h6⟩ := o.lx t'
      exact ⟨ws, SqL.of h5, h6⟩
    · exact q.elim
  · exact q.elim
/-- range(n), range(a, b) -/
def rgS (lo : Int) (n : Nat) : List SV := (List.range n).map fun i => SV.d (.int (lo + (i : Nat)))
theorem rgS_get {lo : Int} {n i : Nat} {x : SV} (h : (rgS lo n)[i]? = some x) : x = .d (.int (lo + (i : Nat))) ∧ i < n := by
  unfold rgS at h
  rw [List.getElem?_map] at h
  cases e : (List.range n)[i]? with
  | none => rw [e] at h; cases h
  | some j =>
    rw [e] at h
    obtain ⟨h1, h2⟩ := List.getElem?_eq_some_iff.mp e
    rw [List.getElem_range] at h2
    rw [List.length_range] at h1
    subst h2
    cases h
    exact ⟨rfl, h1⟩
theorem rgS_len {lo : Int} {n : Nat} : (rgS lo n).length = n := by unfold rgS; rw [List.length_map, List.length_range]
theorem itr_ok {E : En} {F0 : Hp} {lo : Int} {n : Nat} : ItOk E F0 (Itr lo n) (rgS lo n) kpT := by
  refine ⟨fun s o k hi => by rw [rgS_len] at hi; exact hi, fun {i P F H Ω x H' y} s o k yy e => ?_, fun s o k hi => by rw [rgS_len] at hi; exact hi⟩
  obtain ⟨rfl, rfl⟩ := yy
  obtain ⟨rfl, _⟩ := rgS_get e
  exact ⟨F, o, Same.refl F, .int _⟩
def bd62 (i : Int) : Prop := -(2 ^ 62) ≤ i ∧ i < 2 ^ 62
def aRng1 (t : AA) : AI := fun ρ Ω Φ => t ρ Ω fun xs Ω' => match xs with
  | [.d (.int j)] => bd62 j ∧ Φ (rgS 0 j.toNat) kpT Ω'
  | _ => False
def aRng2 (t : AA) : AI := fun ρ Ω Φ => t ρ Ω fun xs Ω' => match xs with
  | [.d (.int i), .d (.int j)] => bd62 i ∧ bd62 j ∧ Φ (rgS i (j - i).toNat) kpT Ω'
  | _ => False
theorem ji_range1 {p : Pos} (hg : Gl X "range") (hm : X.mg "range" = none) (ha : JA X G [a] ta) (hs : starEach [a] X.env = [(false, eval a X.env)] := by rfl) : JI X G tg (.Call (.Name "range" p) [a] [] pos) (aRng1 ta) := by
  obtain ⟨t, h1, h2⟩ := ha
  refine ⟨_, pi_range1 hg hm h1 hs, ⟨fun {ρ Ω Φ} h {P F H σ R} o rp k => h2.go h o rp fun {vs svs Ω1 F1 H1} q o1 s1 r1 => ?_⟩⟩
  split at q
  · obtain ⟨v, rfl, r⟩ := pr1 r1
    cases dqi r
    exact ⟨_, rfl, q.1.1, q.1.2, k q.2 o1 s1 itr_ok⟩
  · exact q.elim
theorem ji_range2 {p : Pos} (hg : Gl X "range") (hm : X.mg "range" = none) (ha : JA X G [a, b] ta) (hs : starEach [a, b] X.env = [(false, eval a X.env), (false, eval b X.env)] := by rfl) (hs2 : starEach [b] X.env = [(false, eval b X.env)] := by rfl) :
    JI X G tg (.Call (.Name "range" p) [a, b] [] pos) (aRng2 ta) := by
  obtain ⟨t, h1, h2⟩ := ha
  refine ⟨_, pi_range2 hg hm h1 hs hs2, ⟨fun {ρ Ω Φ} h {P F H σ R} o rp k => h2.go h o rp fun {vs svs Ω1 F1 H1} q o1 s1 r1 => ?_⟩⟩
  split at q
  · obtain ⟨v, u, rfl, r, r'⟩ := pr2 r1
    cases dqi r
    cases dqi r'
    exact ⟨_, _, rfl, ⟨q.1.1, q.1.2, q.2.1.1, q.2.1.2⟩, k q.2.2 o1 s1 itr_ok⟩
  · exact q.elim
/-! ### statements -/
variable {st : Stmt} {sts rest : List Stmt}
def aNx : AS := fun D ρ Ω => D.nx ρ Ω
def aSeq (s t : AS) : AS := fun D ρ Ω => s { D with nx := t D } ρ Ω
theorem jss_nil : JSs X G [] aNx := ⟨_, pss_nil, ⟨fun {D ρ Ω} h {P F H σ D'} k o rp => k.nx h o (Same.refl F) rp⟩⟩
theorem seq_ok {E : En} {ts tu : TS} {s t : AS} (h1 : SnS E ts s) (h2 : SnS E tu t) : SnS E (tSeq ts tu) (aSeq s t) :=
  ⟨fun {D ρ Ω} h {P F H σ D'} k o rp => h1.go h (D' := { D' with nx := tu D' }) ⟨fun q o z rp => h2.go q (k.up z) o rp, k.rt, k.bk, k.ct⟩ o rp⟩
theorem jss_cons (h1 : JS X G st s) (h2 : JSs X G rest t) : JSs X G (st :: rest) (aSeq s t) := by
  obtain ⟨_, p1, q1⟩ := h1
  obtain ⟨_, p2, q2⟩ := h2
  exact ⟨_, pss_cons p1 p2, seq_ok q1 q2⟩
theorem jss_one (h1 : JS X G st s) : JSs X G [st] s := by
  obtain ⟨_, p1, q1⟩ := h1
  exact ⟨_, pss_one p1, q1⟩
theorem js_pass : JS X G (.Pass pos) aNx := ⟨_, ps_pass, ⟨fun {D ρ Ω} h {P F H σ D'} k o rp => k.nx h o (Same.refl F) rp⟩⟩
def aBrk : AS := fun D ρ Ω => D.bk ρ Ω
def aCnt : AS := fun D ρ Ω => D.ct ρ Ω
theorem js_break : JS X G (.Break pos) aBrk := ⟨_, ps_break, ⟨fun {D ρ Ω} h {P F H σ D'} k o rp => k.bk h o (Same.refl F) rp⟩⟩
theorem js_cont : JS X G (.Continue pos) aCnt := ⟨_, ps_continue, ⟨fun {D ρ Ω} h {P F H σ D'} k o rp => k.ct h o (Same.refl F) rp⟩⟩
def aAsg (a : AE) (g : AG) : AS := fun D ρ Ω => a ρ Ω fun x Ω' => g x ρ fun ρ' => D.nx ρ' Ω'
theorem asg_ok {E : En} {te : TE} {tg : TG} {a : AE} {g : AG} (h1 : SnE E te a) (h2 : SnG E tg g) : SnS E (tAsg te tg) (aAsg a g) :=
  ⟨fun {D ρ Ω} h {P F H σ D'} k o rp => h1.go h o rp fun q o1 s1 r1 => h2.go q o1 (rpe_same s1 rp) r1 fun q2 rp2 => k.nx q2 o1 s1 rp2⟩
theorem js_asg (ha : JE X G e aa) (hg : JG X G tg g) (hs : swapsWithSole [tg] e pos.line X.env = pure false := by rfl) (hw : swappedStores [tg] e X.env = pure none := by rfl) (h1 : (assignEach [tg] X.env).map (·.2) = [assign tg X.env] := by rfl) : JS X G (.Assign [tg] e pos) (aAsg aa g) := by
  obtain ⟨_, p1, q1⟩ := ha
  obtain ⟨_, p2, q2⟩ := hg
  exact ⟨_, ps_asg p1 p2 hs hw h1, asg_ok q1 q2⟩
theorem gN_ok {E : En} {i : Nat} : SnG E (gName i) (gN i) := ⟨fun {x ρ k} h {P F H Ω v σ Q} o rp r q => q h (pr_set (R := RpS E.K F) (y := some x) ⟨_, rfl, r⟩ i rp)⟩
theorem js_set {i : Nat} {x : Str} {pos' : Pos} (hN : X.N.Nodup) (hi : X.N[i]? = some x) (hx : Loc X.env.scope x) (ha : JE X G e aa) (hs : swapsWith e (some (.Name x pos')) pos.line X.env = pure false := by rfl) (hf : X.fn x = true ∨ X.env.scope.names.lookup x = some .local := by first | exact .inl rfl | exact .inr rfl | assumption) :
    JS X G (.Assign [.Name x pos'] e pos) (aAsg aa (gN i)) := by
  obtain ⟨_, p1, q1⟩ := ha
  exact ⟨_, ps_set hN hi hx p1 hs hf, asg_ok q1 gN_ok⟩
/-- a, b = e1, e2 and a, b, c = e1, e2, e3, plain names -/
def aPar2 (i j : Nat) (t : AA) : AS := fun D ρ Ω => t ρ Ω fun xs Ω' => match xs with
  | [x, y] => D.nx ((ρ.set i (some x)).set j (some y)) Ω'
  | _ => False
def aPar3 (i j l : Nat) (t : AA) : AS := fun D ρ Ω => t ρ Ω fun xs Ω' => match xs with
  | [x, y, z] => D.nx (((ρ.set i (some x)).set j (some y)).set l (some z)) Ω'
  | _ => False
theorem js_par2 {i j : Nat} {x y : Str} {px py pt : Pos} {kt k2 pt2} (hc : X.calm = true) (hN : X.N.Nodup) (hi : X.N[i]? = some x) (hj : X.N[j]? = some y) (hij : i ≠ j)
    (hx : X.env.scope.names.lookup x = some .local) (hy : X.env.scope.names.lookup y = some .local) (ha : JA X G [a, b] ta)
    (hw : swappedStores [.Tuple [.Name x px, .Name y py] kt pt] (.Tuple [a, b] k2 pt2) X.env = pure (some [x, y]))
    (hs : swapsWithSole [.Tuple [.Name x px, .Name y py] kt pt] (.Tuple [a, b] k2 pt2) pos.line X.env = pure false := by rfl) :
    JS X G (.Assign [.Tuple [.Name x px, .Name y py] kt pt] (.Tuple [a, b] k2 pt2) pos) (aPar2 i j ta) := by
  obtain ⟨_, p1, q1⟩ := ha
  refine ⟨_, ps_par hc hN hi hj hij hx hy p1 hw hs, ⟨fun {D ρ Ω} h {P F H σ D'} k o rp => q1.go h o rp fun {vs svs Ω1 F1 H1} q o1 s1 r1 => ?_⟩⟩
  split at q
  · obtain ⟨v, u, rfl, r, r'⟩ := pr2 r1
    exact ⟨v, u, rfl, k.nx q o1 s1 (pr_set (R := RpS X.K F1) (y := some _) ⟨_, rfl, r'⟩ _ (pr_set (R := RpS X.K F1) (y := some _) ⟨_, rfl, r⟩ _ (rpe_same s1 rp)))⟩
  · exact q.elim
theorem js_par3 {c : Expr} {i j l : Nat} {x y z : Str} {px py pz pt : Pos} {kt k2 pt2} (hc : X.calm = true) (hN : X.N.Nodup) (hi : X.N[i]? = some x) (hj : X.N[j]? = some y) (hl : X.N[l]? = some z) (hij : i ≠ j) (hil : i ≠ l) (hjl : j ≠ l)
    (hx : X.env.scope.names.lookup x = some .local) (hy : X.env.scope.names.lookup y = some .local) (hz : X.env.scope.names.lookup z = some .local) (ha : JA X G [a, b, c] ta)
    (hw : swappedStores [.Tuple [.Name x px, .Name y py, .Name z pz] kt pt] (.Tuple [a, b, c] k2 pt2) X.env = pure (some [x, y, z]))
    (hs : swapsWithSole [.Tuple [.Name x px, .Name y py, .Name z pz] kt pt] (.Tuple [a, b, c] k2 pt2) pos.line X.env = pure false := by rfl) :
    JS X G (.Assign [.Tuple [.Name x px, .Name y py, .Name z pz] kt pt] (.Tuple [a, b, c] k2 pt2) pos) (aPar3 i j l ta) := by
  obtain ⟨_, p1, q1⟩ := ha
  refine ⟨_, ps_par3 hc hN hi hj hl hij hil hjl hx hy hz p1 hw hs, ⟨fun {D ρ Ω} h {P F H σ D'} k o rp => q1.go h o rp fun {vs svs Ω1 F1 H1} q o1 s1 r1 => ?_⟩⟩
  split at q
  · cases r1 with
    | cons r1 r2 =>
      obtain ⟨v, u, rfl, r, r'⟩ := pr2 r2
      exact ⟨_, v, u, rfl, k.nx q o1 s1 (pr_set (R := RpS X.K F1) (y := some _) ⟨_, rfl, r'⟩ _ (pr_set (R := RpS X.K F1) (y := some _) ⟨_, rfl, r⟩ _ (pr_set (R := RpS X.K F1) (y := some _) ⟨_, rfl, r1⟩ _ (rpe_same s1 rp))))⟩
  · exact q.elim
def aExp (a : AE) : AS := fun D ρ Ω => a ρ Ω fun _ Ω' => D.nx ρ Ω'
theorem js_expr (ha : JE X G e aa) (hs : swapsWith e none pos.line X.env = pure false := by rfl) : JS X G (.Expr e pos) (aExp aa) := by
  obtain ⟨_, p1, q1⟩ := ha
  exact ⟨_, ps_expr p1 hs, ⟨fun {D ρ Ω} h {P F H σ D'} k o rp => q1.go h o rp fun q o1 s1 r1 => k.nx q o1 s1 (rpe_same s1 rp)⟩⟩
def aRet (a : AE) : AS := fun D ρ Ω => a ρ Ω D.rt
theorem js_ret (ha : JE X G e aa) : JS X G (.Return (some e) pos) (aRet aa) := by
  obtain ⟨_, p1, q1⟩ := ha
  exact ⟨_, ps_ret p1, ⟨fun {D ρ Ω} h {P F H σ D'} k o rp => q1.go h o rp fun q o1 s1 r1 => k.rt q o1 s1 r1⟩⟩
/-- cells of the def's own are let go -/
theorem Ok.sub {E : En} {P F H : Hp} {Ω Ω' : Om} (o : Ok E P F H Ω) (s : Ω'.Sublist Ω) : Ok E P F H Ω' := ⟨o.p0, o.pf, fun p h => o.pd p (s.subset h), o.pF, o.f0, o.fn, o.dm, o.ex, fun p h => o.own p (s.subset h), o.nd.sublist (s.map _)⟩
def rtD (k : PhiE) (x : SV) (Ω : Om) : Prop := ∃ Ω2 : Om, Ω2.Sublist Ω ∧ k x Ω2
def aRetD (a : AE) : AS := fun D ρ Ω => a ρ Ω (rtD D.rt)
theorem js_retD (ha : JE X G e aa) : JS X G (.Return (some e) pos) (aRetD aa) := by
  obtain ⟨_, p1, q1⟩ := ha
  refine ⟨_, ps_ret p1, ⟨fun {D ρ Ω} h {P F H σ D'} k o rp => q1.go h o rp fun q o1 s1 r1 => ?_⟩⟩
  obtain ⟨Ω2, sl, q⟩ := q
  exact k.rt q (o1.sub sl) s1 r1
def aRetN : AS := fun D _ Ω => D.rt (.d .none) Ω
theorem js_retN : JS X G (.Return none pos) aRetN := ⟨_, ps_retN, ⟨fun {D ρ Ω} h {P F H σ D'} k o rp => k.rt h o (Same.refl F) .non⟩⟩
/-- a cell is taken out -/
inductive Cut : Om → Addr → Om → Prop where
  | here {a : Addr} {c : OC} {Ω : Om} : Cut ((a, c) :: Ω) a Ω
  | there {a : Addr} {Ω Ω' : Om} {p : Addr × OC} : Cut Ω a Ω' → Cut (p :: Ω) a (p :: Ω')
theorem Cut.addr : ∀ {Ω Ω' : Om} {a : Addr}, Cut Ω a Ω' → (Ω.map (·.1)).Nodup → (∀ x ∈ Ω', x ∈ Ω ∧ x.1 ≠ a) ∧ (Ω'.map (·.1)).Nodup
  | _, _, _, .here, nd => by
    rw [List.map_cons] at nd
    obtain ⟨n1, n2⟩ := List.nodup_cons.mp nd
    exact ⟨fun x hx => ⟨List.mem_cons_of_mem _ hx, fun z => n1 (by rw [← z]; exact List.mem_map_of_mem (f := (·.1)) hx)⟩, n2⟩
  | p :: _, _, a, .there h, nd => by
    have hm : ∀ {Ω Ω' : Om} {b : Addr}, Cut Ω b Ω' → b ∈ Ω.map (·.1) := fun {Ω Ω' b} h => by
      induction h with
      | here => exact List.mem_cons_self
      | there _ ih => exact List.mem_cons_of_mem _ ih
    rw [List.map_cons] at nd
    obtain ⟨n1, n2⟩ := List.nodup_cons.mp nd
    obtain ⟨h1, h2⟩ := h.addr n2
    refine ⟨fun x hx => ?_, ?_⟩
    · rcases List.mem_cons.mp hx with q | q
      · rw [q]; exact ⟨List.mem_cons_self, fun z => n1 (by rw [z]; exact hm h)⟩
      · exact ⟨List.mem_cons_of_mem _ (h1 x q).1, (h1 x q).2⟩
    · rw [List.map_cons]
      refine List.nodup_cons.mpr ⟨fun z => ?_, h2⟩
      obtain ⟨x, hx, e⟩ := List.mem_map.mp z
      exact n1 (by rw [← e]; exact List.mem_map_of_mem (f := (·.1)) (h1 x hx).1)
/-- return of a list of the def's own: it is frozen -/
def rtF (Fr : Addr → Prop) (k : PhiE) (x : SV) (Ω : Om) : Prop := match x with
  | .r (.ref p) => ∃ ds f, At Ω p (.lst ds) f ∧ Fr p ∧ ∃ Ω2, Cut Ω p Ω2 ∧ ∃ Ω3 : Om, Ω3.Sublist Ω2 ∧ k (.d (.list ds)) Ω3
  | _ => False
def aRetF (Fr : Addr → Prop) (a : AE) : AS := fun D ρ Ω => a ρ Ω (rtF Fr D.rt)
theorem js_retF (ha : JE X G e aa) : JS X G (.Return (some e) pos) (aRetF (fun p => G.H0 p = none) aa) := by
  obtain ⟨_, p1, q1⟩ := ha
  refine ⟨_, ps_ret p1, ⟨fun {D ρ Ω} h {P F H σ D'} k o rp => q1.go h o rp fun {v sv Ω1 F1 H1} q o1 s1 r1 => ?_⟩⟩
  unfold rtF at q
  split at q
  · obtain ⟨ds, f, t, fr, Ω2, c, Ω3, sl, q⟩ := q
    cases (show v = _ from r1)
    obtain ⟨nF, _⟩ := o1.at_ t
    obtain ⟨vs, h1, h2⟩ := o1.lst t
    obtain ⟨c1, c2⟩ := c.addr o1.nd
    obtain ⟨o2, s2⟩ := o1.frz (c := .lst ds) h1 fr nF (o1.pd _ t.mem) c1 c2
    exact k.rt q (o2.sub sl) (s1.trans s2) (Dq.lst upd_same (dqa_same s2 _ _ h2))
  · exact q.elim
def aIf (t : AT) (a b : AS) : AS := fun D ρ Ω => t ρ Ω fun c Ω' => br c (a D ρ Ω') (b D ρ Ω')
theorem js_if {c : Expr} {xs ys : List Stmt} (hc : JT X G c at_) (ha : JSs X G xs s) (hb : JSs X G ys t) : JS X G (.If c xs ys pos) (aIf at_ s t) := by
  obtain ⟨_, p1, q1⟩ := hc
  obtain ⟨_, p2, q2⟩ := ha
  obtain ⟨_, p3, q3⟩ := hb
  refine ⟨_, ps_if p1 p2 p3, ⟨fun {D ρ Ω} h {P F H σ D'} k o rp => q1.go h o rp fun {b Ω1 F1 H1} q o1 s1 => br_ite ?_⟩⟩
  replace q := br_out q
  cases b
  · exact q3.go q (k.up s1) o1 (rpe_same s1 rp)
  · exact q2.go q (k.up s1) o1 (rpe_same s1 rp)
def aWhile (t : AT) (s : AS) : AS := fun D ρ Ω => ∃ W : Nat → Rho → Om → Prop, (∃ m, W m ρ Ω) ∧ ∀ m ρ Ω, W m ρ Ω →
  t ρ Ω fun b Ω1 => br b (s { D with nx := fun ρ' Ω' => ∃ m', m' < m ∧ W m' ρ' Ω', ct := fun ρ' Ω' => ∃ m', m' < m ∧ W m' ρ' Ω', bk := D.nx } ρ Ω1) (D.nx ρ Ω1)
theorem js_while {c : Expr} {body : List Stmt} (hp : PassesOwn (model X.prog X.w) X.A X.env X.xe) (hc : JT X G c at_) (hb : JSs X G body s) : JS X G (.While c body [] pos) (aWhile at_ s) := by
  obtain ⟨_, p1, q1⟩ := hc
  obtain ⟨tb, p2, q2⟩ := hb
  refine ⟨_, ps_while hp p1 p2, ⟨fun {D ρ Ω} h {P F H σ D'} k o rp => ?_⟩⟩
  obtain ⟨W, ⟨m0, w0⟩, turn⟩ := h
  refine ⟨fun m σ H => ∃ ρ Ω F', Same F F' ∧ W m ρ Ω ∧ Ok (enX X G) P F' H Ω ∧ RpE X.K F' σ ρ, ⟨m0, ρ, Ω, F, Same.refl F, w0, o, rp⟩, ?_⟩
  rintro m σ1 H1 ⟨ρ1, Ω1, F1, z1, w1, o1, rp1⟩
  refine q1.go (turn m ρ1 Ω1 w1) o1 rp1 fun {b Ω2 F2 H2} q o2 s2 => br_ite ?_
  replace q := br_out q
  have z2 := z1.trans s2
  cases b
  · exact k.nx q o2 z2 (rpe_same s2 rp1)
  · refine ⟨fun σ' H' => ∃ m', m' < m ∧ ∃ ρ Ω F', Same F F' ∧ W m' ρ Ω ∧ Ok (enX X G) P F' H' Ω ∧ RpE X.K F' σ' ρ, fun σ' H' z => z, ?_⟩
    refine q2.go q ⟨fun z o z3 rp => ?_, fun z o z3 r => k.rt z o (z2.trans z3) r, fun z o z3 rp => k.nx z o (z2.trans z3) rp, fun z o z3 rp => ?_⟩ o2 (rpe_same s2 rp1)
    · obtain ⟨m', h1, h2⟩ := z
      exact ⟨m', h1, _, _, _, z2.trans z3, h2, o, rp⟩
    · obtain ⟨m', h1, h2⟩ := z
      exact ⟨m', h1, _, _, _, z2.trans z3, h2, o, rp⟩
def aFor (ai : AI) (g : AG) (s : AS) : AS := fun D ρ Ω => ai ρ Ω fun xs Kp Ω1 => ∃ W : Nat → Rho → Om → Prop, W 0 ρ Ω1 ∧ (∀ i ρ Ω, W i ρ Ω → Kp Ω) ∧
  (∀ i x ρ Ω, xs[i]? = some x → W i ρ Ω → g x ρ fun ρ' => s { D with nx := W (i + 1), ct := W (i + 1), bk := D.nx } ρ' Ω) ∧ ∀ ρ Ω, W xs.length ρ Ω → D.nx ρ Ω
theorem js_for {iter : Expr} {body : List Stmt} (hp : PassesOwn (model X.prog X.w) X.A X.env X.xe) (hc : X.calm = true) (hi : JI X G tg iter ai) (hg : JG X G tg g) (hb : JSs X G body s) (h : ∀ {wi : TI} {g' : TG} {tb : TS}, PI X tg iter wi → PG X tg g' → PSs X body tb → PS X (.For tg iter body [] pos) (tFor wi g' tb) := by intro _ _ _ a b c; first | exact ps_for PassesOwn.never rfl a b c | exact ps_for (passes_of rfl) rfl a b c | exact ps_for (by assumption) rfl a b c) :
    JS X G (.For tg iter body [] pos) (aFor ai g s) := by
  obtain ⟨wi, p1, q1⟩ := hi
  obtain ⟨g', p2, q2⟩ := hg
  obtain ⟨tb, p3, q3⟩ := hb
  refine ⟨_, h p1 p2 p3, ⟨fun {D ρ Ω} h {P F H σ D'} k o rp => q1.go h o rp fun {J xs Kp Ω1 F1 H1} q o1 s1 it => ?_⟩⟩
  obtain ⟨W, w0, wk, turn, fin⟩ := q
  refine ⟨fun i m σ H => m = xs.length - i ∧ i ≤ xs.length ∧ ∃ ρ Ω F, Same F1 F ∧ W i ρ Ω ∧ Ok (enX X G) P F H Ω ∧ RpE X.K F σ ρ, ⟨_, rfl, Nat.zero_le _, ρ, Ω1, F1, Same.refl F1, w0, o1, rpe_same s1 rp⟩, ?_⟩
  rintro i m σ2 H2 ⟨rfl, hi, ρ2, Ω2, F2, s2, w2, o2, rp2⟩
  by_cases hlt : i < xs.length
  · refine Or.inr ⟨it.go s2 o2 (wk _ _ _ w2) hlt, fun σ' H' => ∃ ρ Ω F, Same F1 F ∧ W (i + 1) ρ Ω ∧ Ok (enX X G) P F H' Ω ∧ RpE X.K F σ' ρ, fun σ' H' z => ⟨_, by omega, rfl, hlt, z⟩, fun x H' y => ?_⟩
    have e : xs[i]? = some xs[i] := List.getElem?_eq_getElem hlt
    obtain ⟨F3, o3, s3, r3⟩ := it.yl s2 o2 (wk _ _ _ w2) y e
    refine q2.go (turn i _ ρ2 Ω2 e w2) o3 (rpe_same s3 rp2) r3 fun {σ4 ρ4} q4 rp4 => ?_
    have z3 := s2.trans s3
    exact q3.go q4 ⟨fun z o z4 rp => ⟨_, _, _, z3.trans z4, z, o, rp⟩, fun z o z4 r => k.rt z o ((s1.trans z3).trans z4) r, fun z o z4 rp => k.nx z o ((s1.trans z3).trans z4) rp, fun z o z4 rp => ⟨_, _, _, z3.trans z4, z, o, rp⟩⟩ o3 rp4
  · have e : i = xs.length := by omega
    subst e
    exact Or.inl ⟨it.st s2 o2 (wk _ _ _ w2) (Nat.le_refl _), k.nx (fin _ _ w2) o2 (s1.trans s2) rp2⟩
end
end Z
/-! Z7: xs[i] = e; comprehensions; a def by its body; the law's end. -/
namespace Z
open PySem PySem.Spec PyProof.Rows L2
section
variable {X : Cx} {G : Gn} {e a b tg : Expr} {aa ab ac : AE} {at_ bt : AT} {ta tb : AA} {pos : Pos} {m : Mode} {g : AG} {gs : AGs} {s t : AS} {ai : AI}
/-- o[i] = e on a cell's list -/
def aSetIx (a o i : AE) : AS := fun D ρ Ω => a ρ Ω fun x Ω1 => o ρ Ω1 fun l Ω2 => i ρ Ω2 fun j Ω3 => match l, j with
  | .r (.ref p), .d (.int n) => ∃ c f, At Ω3 p c f ∧ (match c, x with
    | .lst ds, .d d => ∃ q, ixN ds.length n = some q ∧ D.nx ρ (f (.lst (ds.set q d)))
    | .lx ys, x => ∃ q, ixN ys.length n = some q ∧ D.nx ρ (f (.lx (ys.set q x)))
    | _, _ => False)
  | _, _ => False
theorem js_setIx (he : JE X G e aa) (ha : JE X G a ab) (hb : JE X G b ac) {spos : Pos}
    (h : ∀ {te ta tb : TE}, PE X e te → PE X a ta → PE X b tb → PS X (.Assign [.Subscript a b pos] e spos) (tAsg te (gSub ta tb rSetL)) := by intro _ _ _ p q r; exact ps_asg p (pg_sub q r set_list)) :
    JS X G (.Assign [.Subscript a b pos] e spos) (aSetIx aa ab ac) := by
  obtain ⟨te, p1, q1⟩ := he
  obtain ⟨ta, p2, q2⟩ := ha
  obtain ⟨tb, p3, q3⟩ := hb
  refine ⟨_, h p1 p2 p3, ⟨fun {D ρ Ω} h {P F H σ D'} k o rp => q1.go h o rp fun {v sv Ω1 F1 H1} z1 o1 s1 r1 => q2.go z1 o1 (rpe_same s1 rp) fun {v2 sv2 Ω2 F2 H2} z2 o2 s2 r2 => q3.go z2 o2 (rpe_same (s1.trans s2) rp) fun {v3 sv3 Ω3 F3 H3} z3 o3 s3 r3 => ?_⟩⟩
  have k3 := (s1.trans s2).trans s3
  have r1' := (r1.same s2).same s3
  dsimp only at z3
  split at z3
  · obtain ⟨c, f, t, z3⟩ := z3
    cases (show v2 = _ from r2)
    cases dqi r3
    split at z3
    · obtain ⟨q, e1, z⟩ := z3
      obtain ⟨vs, h1, h2⟩ := o3.lst t
      exact ⟨_, vs, _, q, rfl, rfl, h1, by rw [dqa_len h2]; exact e1, k.nx z (o3.put t (dqa_set q h2 r1')) k3 (rpe_same k3 rp)⟩
    · obtain ⟨q, e1, z⟩ := z3
      obtain ⟨vs, h1, h2⟩ := o3.lx t
      exact ⟨_, vs, _, q, rfl, rfl, h1, by rw [h2.length]; exact e1, k.nx z (o3.put t (pr_set r1' q h2)) k3 (rpe_same k3 rp)⟩
    · exact z3.elim
  · exact z3.elim
/-! ### comprehensions -/
def wipR (ρ : Rho) : List Nat → Rho
  | [] => ρ
  | v :: vs => (wipR ρ vs).set v none
theorem wip_ok {K : Frag} {F : Hp} {σ : L2.St} {ρ : Rho} (h : RpE K F σ ρ) : ∀ vs : List Nat, RpE K F (wipe σ vs) (wipR ρ vs)
  | [] => h
  | v :: vs => pr_set (R := RpS K F) (x := none) (y := none) trivial v (wip_ok h vs)
/-- only the block's own slots are stored -/
def GOnly (g : TG) (vs : List Nat) : Prop := ∀ {v : V} {σ : L2.St} {H : Hp} {Q Q' : L2.St → Hp → Prop}, g v σ H Q → (∀ σ2 H2, wipe σ2 vs = wipe σ vs → Q σ2 H2 → Q' σ2 H2) → g v σ H Q'
theorem wipe_set {σ : L2.St} {x : Option V} {i : Nat} : ∀ {vs : List Nat}, i ∈ vs → wipe (σ.set i x) vs = wipe σ vs
  | [], h => by cases h
  | v :: vs, h => by
    show (wipe (σ.set i x) vs).set v none = (wipe σ vs).set v none
    have comm : ∀ ws : List Nat, i ∉ ws → wipe (σ.set i x) ws = (wipe σ ws).set i x := fun ws => by
      induction ws with
      | nil => exact fun _ => rfl
      | cons w ws ih =>
        intro hn
        show (wipe (σ.set i x) ws).set w none = ((wipe σ ws).set w none).set i x
        rw [ih fun z => hn (List.mem_cons_of_mem _ z)]
        exact (List.set_comm _ _ (fun z => hn (by rw [z]; exact List.mem_cons_self)))
    by_cases hm : i ∈ vs
    · rw [wipe_set hm]
    · rcases List.mem_cons.mp h with e | e
      · rw [comm vs hm, e, List.set_set]
      · exact absurd e hm
theorem wipe_wipe {σ : L2.St} : ∀ {vs ws : List Nat}, (∀ v ∈ vs, v ∈ ws) → wipe (wipe σ vs) ws = wipe σ ws
  | [], ws, _ => rfl
  | v :: vs, ws, h => by
    show wipe ((wipe σ vs).set v none) ws = wipe σ ws
    rw [wipe_set (h v List.mem_cons_self), wipe_wipe fun w hw => h w (List.mem_cons_of_mem _ hw)]
def JGo (X : Cx) (G : Gn) (tg : Expr) (ag : AG) (vs : List Nat) : Prop := ∃ g, PG X tg g ∧ SnG (enX X G) g ag ∧ GOnly g vs
def JGso (X : Cx) (G : Gn) (tg : List Expr) (ag : AGs) (vs : List Nat) : Prop := ∃ g, PGs X tg g ∧ SnGs (enX X G) g ag ∧ ∀ {xs : List V} {σ : L2.St} {H : Hp} {Q Q' : L2.St → Hp → Prop}, g xs σ H Q → (∀ σ2 H2, wipe σ2 vs = wipe σ vs → Q σ2 H2 → Q' σ2 H2) → g xs σ H Q'
theorem jgo_name {i : Nat} {x : Str} {vs : List Nat} (hi' : i ∈ vs) (hN : X.N.Nodup) (hi : X.N[i]? = some x) (hx : Loc X.env.scope x) (hf : X.fn x = true ∨ X.env.scope.names.lookup x = some .local := by first | exact .inl rfl | exact .inr rfl | assumption) : JGo X G (.Name x pos) (gN i) vs :=
  ⟨_, pg_name hN hi hx hf, gN_ok, fun h k => k _ _ (wipe_set hi') h⟩
theorem jgso0 {vs : List Nat} : JGso X G [] gs0 vs := by
  refine ⟨_, pgs_nil, ⟨fun {xs ρ k} h {P F H Ω vs σ Q} o rp r q => ?_⟩, fun h k => ⟨h.1, k _ _ rfl h.2⟩⟩
  unfold gs0 at h
  split at h
  · cases r
    exact ⟨rfl, q h rp⟩
  · exact h.elim
theorem jgso1 {es : List Expr} {vs : List Nat} (h1 : JGo X G e g vs) (h2 : JGso X G es gs vs) (hs : (assignEach (e :: es) X.env).map (·.2) = assign e X.env :: (assignEach es X.env).map (·.2) := by rfl) : JGso X G (e :: es) (gs1 g gs) vs := by
  obtain ⟨g', p1, q1, z1⟩ := h1
  obtain ⟨u, p2, q2, z2⟩ := h2
  refine ⟨_, pgs_cons p1 p2 hs, ⟨fun {xs ρ k} h {P F H Ω vs σ Q} o rp r q => ?_⟩, fun {xs σ H Q Q'} h k => ?_⟩
  · unfold gs1 at h
    split at h
    · cases r with
      | cons r1 r2 => exact ⟨_, _, rfl, q1.go h o rp r1 fun h' rp' => q2.go h' o rp' r2 q⟩
    · exact h.elim
  · obtain ⟨v, r, e, h⟩ := h
    exact ⟨v, r, e, z1 h fun σ2 H2 e2 h2 => z2 h2 fun σ3 H3 e3 h3 => k σ3 H3 (e3.trans e2) h3⟩
theorem jgo_tup {es : List Expr} {n k' : Nat} {vs : List Nat} (hc : X.calm = true) (h : JGso X G es gs vs) (hn : (assignEach es X.env).length = n := by rfl) (hst : (assignEach es X.env).findIdx? (·.1) = none := by rfl) : JGo X G (.Tuple es k' pos) (gT n gs) vs := by
  obtain ⟨u, p, q', z⟩ := h
  refine ⟨_, pg_tup hc p hn hst, ⟨fun {x ρ k} h {P F H Ω v σ Q} o rp r q => ?_⟩, fun {v σ H Q Q'} h k => ?_⟩
  · unfold gT at h
    split at h
    · obtain ⟨p, vs, rfl, hF, da⟩ := dqt r
      exact ⟨p, vs, rfl, sqt_same o.ex hF, by rw [dqa_len da]; exact h.1, q'.go h.2 o rp (of_dqa da) q⟩
    · exact h.elim
  · obtain ⟨a, xs, e, h1, h2, h3⟩ := h
    exact ⟨a, xs, e, h1, h2, z h3 k⟩
def JTs (X : Cx) (G : Gn) (e : List Expr) (a : AT) : Prop := ∃ te, PTs X e te ∧ SnT (enX X G) te a
def aYes : AT := fun _ Ω Φ => Φ true Ω
theorem jts_nil : JTs X G [] aYes := ⟨_, pts_nil, ⟨fun {ρ Ω Φ} h {P F H σ Q} o rp k => k h o (Same.refl F)⟩⟩
theorem jts_one {c : Expr} (h : JT X G c at_) : JTs X G [c] at_ := by
  obtain ⟨_, p, q⟩ := h
  exact ⟨_, pts_one p, q⟩
def aLc (m : Mode) (ai : AI) (g : AG) (tt : AT) (te : AE) (vs : List Nat) : AE := fun ρ Ω Φ => ai ρ Ω fun xs Kp Ω1 => xs.length ≤ 1000000 ∧ ∃ W : Nat → List SV → Om → Prop, W 0 [] Ω1 ∧ (∀ i acc Ω, W i acc Ω → Kp Ω ∧ acc.length ≤ i) ∧
  (∀ i x acc Ω, xs[i]? = some x → W i acc Ω → g x (wipR ρ vs) fun ρ' => tt ρ' Ω fun b Ω2 => br b (te ρ' Ω2 fun y Ω3 => W (i + 1) (acc ++ [y]) Ω3) (W (i + 1) acc Ω2)) ∧
  ∀ acc Ω, W xs.length acc Ω → newX m acc Ω Φ
theorem lc_ok {E : En} {wi : TI} {g' : TG} {tt' : TT} {te' : TE} {ai : AI} {g : AG} {tt : AT} {te : AE} {vs : List Nat} (hm : MOk E m) (h1 : SnI E wi ai) (h2 : SnG E g' g) (h2' : GOnly g' vs) (h3 : SnT E tt' tt) (h4 : SnE E te' te) : SnE E (tLc wi g' tt' te' vs) (aLc m ai g tt te vs) := by
  refine ⟨fun {ρ Ω Φ} h {P F H σ Q} o rp k => h1.go h o rp fun {J xs Kp Ω1 F1 H1} q o1 s1 it => fun Dl hD => ?_⟩
  obtain ⟨hz, W, w0, wk, turn, fin⟩ := q
  have nP : P Dl = none := o1.pf.free hD
  have s0 : Same E.P0 P := o1.p0
  have n00 : E.P0 Dl = none := s0.free nP
  have nF : ∀ {Q' F' H' : Hp} {Ω' : Om} {u : HO}, Ok E (upd Q' Dl u) F' H' Ω' → F' Dl = none := fun ok => ok.pF Dl (by rw [upd_same]; exact fun z => nomatch z)
  refine ⟨fun i m H => m = xs.length - i ∧ i ≤ xs.length ∧ ∃ acc ws F' Ω', Same F1 F' ∧ W i acc Ω' ∧ Ok E (upd P Dl (.lst ws)) F' H Ω' ∧ Paired (Rp E.K F') ws acc, ⟨_, rfl, Nat.zero_le _, [], [], F1, Ω1, Same.refl F1, w0, o1.guard hD, .nil⟩, ?_⟩
  rintro i mm H2 ⟨rfl, hi, acc, ws, F2, Ω2, s2, w2, o2, r2⟩
  obtain ⟨kp, hl⟩ := wk _ _ _ w2
  by_cases hlt : i < xs.length
  · refine Or.inr ⟨it.go s2 o2 kp hlt, fun H => ∃ acc ws F' Ω', Same F1 F' ∧ W (i + 1) acc Ω' ∧ Ok E (upd P Dl (.lst ws)) F' H Ω' ∧ Paired (Rp E.K F') ws acc, fun H' z => ⟨_, by omega, rfl, hlt, z⟩, fun x H' y => ?_⟩
    have e : xs[i]? = some xs[i] := List.getElem?_eq_getElem hlt
    obtain ⟨F3, o3, s3, r3⟩ := it.yl s2 o2 kp y e
    have z3 := s2.trans s3
    refine h2' (h2.go (turn i _ acc Ω2 e w2) o3 (wip_ok (rpe_same (s1.trans z3) rp) vs) r3 (Q := fun σ2 H4 => H4 = H' ∧ ∃ ρ', (tt ρ' Ω2 fun b Ω2 => br b (te ρ' Ω2 fun y Ω3 => W (i + 1) (acc ++ [y]) Ω3) (W (i + 1) acc Ω2)) ∧ RpE E.K F3 σ2 ρ') fun {σ' ρ'} h5 rp5 => ⟨rfl, ρ', h5, rp5⟩) ?_
    rintro σ2 H4 ew ⟨rfl, ρ', h5, rp5⟩
    refine ⟨by rw [ew, wipe_wipe fun v hv => hv], h3.go h5 o3 rp5 fun {b Ω5 F5 H5} q5 o5 s5 => br_ite ?_⟩
    replace q5 := br_out q5
    cases b
    · exact ⟨acc, ws, F5, Ω5, z3.trans s5, q5, o5, rps_same (s3.trans s5) r2⟩
    · refine h4.go q5 o5 (rpe_same s5 rp5) fun {v sv Ω6 F6 H6} q6 o6 s6 r6 => ⟨ws, o6.pf Dl _ upd_same, ?_, acc ++ [sv], ws ++ [v], F6, Ω6, (z3.trans s5).trans s6, q6, o6.poke n00 (nF o6) nP, pr_app (rps_same ((s3.trans s5).trans s6) r2) (.cons r6 .nil)⟩
      have := r2.length
      have l1 : (1000000 : Nat) < sizeLine := by decide
      omega
  · have e : i = xs.length := by omega
    subst e
    refine Or.inl ⟨it.st s2 o2 kp (Nat.le_refl _), ?_⟩
    have q := fin _ _ w2
    have n0 : E.H0 Dl = none := o1.dm _ hD
    cases m with
    | none =>
      have q' : (match dataOf acc with | some ds => Φ (.d (.list ds)) Ω2 | none => False) := q
      split at q'
      · rename_i ds e
        obtain ⟨o7, s7⟩ := o2.adoptF s0 nP n0
        exact k q' o7 ((s1.trans s2).trans s7) (Dq.lst upd_same (dqa_same s7 _ _ (dataOf_ok e r2)))
      · exact q'.elim
    | some Fr => exact k (q Dl (hm _ rfl Dl n0)) (o2.adopt s0 nP (mkL_ok r2)) (s1.trans s2) rfl
/-- one reading for all contexts of a block -/
theorem all_pe {ι : Type} {Xs : ι → Cx} {E : En} (h : ∀ i, ∃ te, PE (Xs i) e te ∧ SnE E te aa) : ∃ te, (∀ i, PE (Xs i) e te) ∧ SnE E te aa := by
  refine ⟨fun σ H Q => ∀ i, (h i).choose σ H Q, fun i => ⟨fun pins s σ H Q I q => (h i).choose_spec.1.run pins s σ H Q I (q i)⟩, ⟨fun {ρ Ω Φ} q {P F H σ Q} o rp k i => (h i).choose_spec.2.go q o rp k⟩⟩
theorem all_pts {ι : Type} {Xs : ι → Cx} {E : En} {es : List Expr} (h : ∀ i, ∃ te, PTs (Xs i) es te ∧ SnT E te at_) : ∃ te, (∀ i, PTs (Xs i) es te) ∧ SnT E te at_ := by
  refine ⟨fun σ H Q => ∀ i, (h i).choose σ H Q, fun i => ⟨fun pins s σ H Q I q => (h i).choose_spec.1.run pins s σ H Q I (q i)⟩, ⟨fun {ρ Ω Φ} q {P F H σ Q} o rp k i => (h i).choose_spec.2.go q o rp k⟩⟩
theorem all_pg {ι : Type} {Xs : ι → Cx} {E : En} {vs : List Nat} (h : ∀ i, ∃ g', PG (Xs i) e g' ∧ SnG E g' g ∧ GOnly g' vs) : ∃ g', (∀ i, PG (Xs i) e g') ∧ SnG E g' g ∧ GOnly g' vs := by
  refine ⟨fun v σ H Q => ∀ i, (h i).choose v σ H Q, fun i => ⟨fun pins s σ H v u Q I r q => (h i).choose_spec.1.run pins s σ H v u Q I r (q i)⟩, ⟨fun {x ρ k} q {P F H Ω v σ Q} o rp r k i => (h i).choose_spec.2.1.go q o rp r k⟩, fun {v σ H Q Q'} q k i => (h i).choose_spec.2.2 (q i) k⟩
section
variable {elt iter : Expr} {ifs : List Expr} {scope : Scope} {own : List (Str × Nat)} {tt : AT} {te : AE}
abbrev BI := Shared × Hp × Addr × List (Str × Addr) × List Addr
abbrev blkX (X : Cx) (scope : Scope) (i : BI) : Cx := X.blk i.1 i.2.1 scope (compEnvC scope i.2.2.2.1 i.2.2.1 X.env) i.2.2.2.2
theorem je_lc (hm : MOk (enX X G) m) (hc : X.calm = true) (hN : X.N.Nodup) (hi : JI X G tg iter ai) (ok : BlkOk X.N X.env.scope scope own)
    (hg : ∀ i, JGo (blkX X scope i) G tg g (own.map (·.2))) (ht : ∀ i, JTs (blkX X scope i) G ifs tt) (he : ∀ i, JE (blkX X scope i) G elt te) (hs : ∀ x, foldedSetIterable iter X.env x = pure x := by intro _; rfl) :
    JE X G (.ListComp elt [⟨tg, iter, ifs, 0⟩] scope pos) (aLc m ai g tt te (own.map (·.2))) := by
  obtain ⟨wi, p1, q1⟩ := hi
  obtain ⟨g', p2, q2, z2⟩ := all_pg (E := enX X G) hg
  obtain ⟨t', p3, q3⟩ := all_pts (E := enX X G) ht
  obtain ⟨e', p4, q4⟩ := all_pe (E := enX X G) he
  exact ⟨_, pe_lc hc hN p1 ok (fun s H C cl fp => p2 (s, H, C, cl, fp)) (fun s H C cl fp => p3 (s, H, C, cl, fp)) (fun s H C cl fp => p4 (s, H, C, cl, fp)) hs, lc_ok hm q1 q2 z2 q3 q4⟩
/-- y = [..] -/
theorem js_setLc {i : Nat} {y : Str} {py spos : Pos} (hm : MOk (enX X G) m) (hc : X.calm = true) (hN : X.N.Nodup) (hy : X.N[i]? = some y) (hyl : X.env.scope.names.lookup y = some .local)
    (hsw : swapsWith (.ListComp elt [⟨tg, iter, ifs, 0⟩] scope pos) (some (.Name y py)) spos.line X.env = pure true) (hi : JI X G tg iter ai) (ok : BlkOk X.N X.env.scope scope own)
    (hg : ∀ i, JGo (blkX X scope i) G tg g (own.map (·.2))) (ht : ∀ i, JTs (blkX X scope i) G ifs tt) (he : ∀ i, JE (blkX X scope i) G elt te) (hs : ∀ x, foldedSetIterable iter X.env x = pure x := by intro _; rfl) :
    JS X G (.Assign [.Name y py] (.ListComp elt [⟨tg, iter, ifs, 0⟩] scope pos) spos) (aAsg (aLc m ai g tt te (own.map (·.2))) (gN i)) := by
  obtain ⟨wi, p1, q1⟩ := hi
  obtain ⟨g', p2, q2, z2⟩ := all_pg (E := enX X G) hg
  obtain ⟨t', p3, q3⟩ := all_pts (E := enX X G) ht
  obtain ⟨e', p4, q4⟩ := all_pe (E := enX X G) he
  exact ⟨_, ps_setLc hc hN hy hyl hsw p1 ok (fun s H C cl fp => p2 (s, H, C, cl, fp)) (fun s H C cl fp => p3 (s, H, C, cl, fp)) (fun s H C cl fp => p4 (s, H, C, cl, fp)) hs, asg_ok (lc_ok hm q1 q2 z2 q3 q4) gN_ok⟩
end
end
/-! ### a def by its body -/
def startR (N : List Str) (svs : List SV) : Rho := svs.map some ++ List.replicate (N.length - svs.length) none
theorem pr_map {α β γ δ : Type} {R : α → β → Prop} {S : γ → δ → Prop} {f : α → γ} {g : β → δ} (h : ∀ a b, R a b → S (f a) (g b)) : ∀ {l : List α} {m : List β}, Paired R l m → Paired S (l.map f) (m.map g)
  | _, _, .nil => .nil
  | _, _, .cons r t => .cons (h _ _ r) (pr_map h t)
theorem pr_rep {α β : Type} {R : α → β → Prop} {a : α} {b : β} (h : R a b) : ∀ n, Paired R (List.replicate n a) (List.replicate n b)
  | 0 => .nil
  | n + 1 => .cons h (pr_rep h n)
theorem start_ok {K : Frag} {F : Hp} {N : List Str} {vs : List V} {svs : List SV} (r : Paired (Rp K F) vs svs) : RpE K F (L2.start N vs) (startR N svs) := by
  unfold L2.start startR
  rw [r.length]
  exact pr_app (pr_map (fun a b q => ⟨a, rfl, q⟩) r) (pr_rep trivial _)
section
variable {P : Program} {w : World} {K : Frag} {mg : Str → Option Value} {base : Heap} {CX : CXT} {k : Nat} {f : Addr} {fd : FuncData} {ps N : List Str} {T : Con} {x qual : Str} {st : Stmt} {as : (Addr → Prop) → XA → AS}
/-- THE RULE for a def: its body's reading as (for the addresses that are new, and what is wished of an exception), and that it keeps the contract T -/
theorem fn_ok (Fu : Fun K x qual st f fd) (S : FnScope N ps (defScope st)) (hT : Ari T ps.length)
    (hb : ∀ (cdv : Value) (A : Around) (outer : List Env) (s : Shared) (H : Hp) (E : XK) (G : Gn) (Ξ : XA), A.guards = some [] → Room k (A.deeper (envOfC qual (defScope st) s.heap.objs.size f cdv)) →
      (∀ {x : XI} {Ω : Om} {P' F H : Hp} {cls : Value} {d : Option Addr}, Ξ x Ω → Ok ⟨G, K⟩ P' F H Ω → RpX K F H cls d x → E cls d H) →
      JSs (cxOf CX P w K mg base N qual (defScope st) f cdv A outer s H E) G (defBody st) (as (fun p => G.H0 p = none) Ξ))
    (hr : ∀ Fr svs Ω Φ Ξ, T svs Ω Φ Ξ → as Fr Ξ { nx := fun _ Ω => Φ (.d .none) Ω, rt := Φ } (startR N svs) Ω) : FnG P w K mg base CX (k + 1) f fd ps (spOf K T) := by
  obtain ⟨oc, od, kV, doc, pm, an, cdv, ct, osl, rfl, lk, hcd⟩ := Fu.ex
  refine fnG_of lk hcd S (fun vs H Q E h => ?_) fun A outer s H vs Q E hgd hrm hsp => ?_
  · obtain ⟨P0, F, Ω, svs, Φ, Ξ, o, r, h, _⟩ := h
    rw [r.length]
    exact hT _ _ _ _ h
  · obtain ⟨P0, F, Ω, svs, Φ, Ξ, o, r, h, k1, k2⟩ := hsp
    obtain ⟨t, p, q⟩ := hb cdv A outer s H E ⟨F, H, P0⟩ Ξ hgd hrm fun z1 z2 z3 => k2 _ _ _ _ _ _ _ z1 z2 z3
    exact ⟨t, p, q.go (hr _ svs Ω Φ Ξ h) ⟨fun z o' _ _ => k1 _ _ _ _ _ _ z o' Dq.non, fun z o' _ r' => k1 _ _ _ _ _ _ z o' r', fun z _ _ _ => z.elim, fun z _ _ _ => z.elim⟩ o (start_ok r)⟩
/-- .. for a def that lets nothing out -/
theorem fn_ok0 {as : (Addr → Prop) → AS} (Fu : Fun K x qual st f fd) (S : FnScope N ps (defScope st)) (hT : Ari T ps.length)
    (hb : ∀ (cdv : Value) (A : Around) (outer : List Env) (s : Shared) (H : Hp) (E : XK) (G : Gn), A.guards = some [] → Room k (A.deeper (envOfC qual (defScope st) s.heap.objs.size f cdv)) →
      JSs (cxOf CX0 P w K mg base N qual (defScope st) f cdv A outer s H E).nox G (defBody st) (as (fun p => G.H0 p = none)))
    (hr : ∀ Fr svs Ω Φ Ξ, T svs Ω Φ Ξ → as Fr { nx := fun _ Ω => Φ (.d .none) Ω, rt := Φ } (startR N svs) Ω) : FnG P w K mg base CX0 (k + 1) f fd ps (spOf K T) :=
  fn_ok (as := fun Fr _ => as Fr) Fu S hT (fun cdv A outer s H E G Ξ h1 h2 h3 => by
    obtain ⟨t, p, q⟩ := hb cdv A outer s H E G h1 h2
    exact ⟨t, p.nox, ⟨fun {D ρ Ω} z {P F H σ D'} k o r => q.go z k o r⟩⟩) hr
theorem kargs (Fu : Fun K x qual st f fd) {ks : List Str} {n : Nat} {π : List Nat}
    (h : ∀ (kV doc pm : Value) (an : Option Addr) (cdv ct : Value) (us ws : List Value), us.length = n → ws.length = ks.length → bindArgs (PySem.W.fnOf x qual (defArgs st) (defBody st) (defScope st) .none kV doc pm an cdv ct) ⟨us, ks.zip ws⟩ = pure (ps.zip (π.map fun i => (us ++ ws).getD i .none))) : KArg K fd ps ks n π := by
  obtain ⟨oc, od, kV, doc, pm, an, cdv, ct, osl, rfl, lk, hcd⟩ := Fu.ex
  exact fun s us ws _ h1 h2 => .of_eq (h kV doc pm an cdv ct us ws h1 h2)
end
end Z
/-! Zr: list(reversed(xs)); xs[::-1]. -/
namespace Z
open PySem PySem.Spec PyProof.Rows L2
section
variable {prog : Program} {w : World} {A : Around} {E : Value → Shared → Prop} {s : Shared}
theorem rev_fill {R : Result → Shared → Prop} {it l S : Addr} {items : Array Value} {res : Value} {c₀ : Nat} (hh : A.handled = none) (hit : s.heap.IsRevIter it l ((items.size : Int) - 1)) (hl : s.heap.IsList l items) (hne : l ≠ it) (hn : items.size ≤ sizeLine)
    (hSi : S ≠ it) (hSl : S ≠ l) (hS : s.heap.get? S = some { cls := .type "list", data := .seq #[] c₀ })
    (hR : ∀ h' tk acc c', (∀ b o, b ≠ S → b ≠ it → s.heap.get? b = some o → h'.get? b = some o) → h'.get? S = some { cls := .type "list", dict := none, data := .seq acc c', slots := #[] } →
      ItemsOf (fun i v => items[items.size - 1 - i]? = some v) acc items.size → R (.ok (.ret res)) { s with heap := h', toks := tk }) :
    wpAny (model prog w) A.in1 (Builtin.List.listExtendWith (.ref S) (.ref it) res)
      (fun fin s' => match fin with | .done f => R (.ok f) s' | .again c' => c'.quiet = true ∧ codeAny (model prog w) A c' R s') (fun e s' => R (.error e) s') s := by
  have W := (Walks.listRev (prog := prog) (w := w) (A := A.in1) hh it l hne items).toS
  have hSf : S ∉ [it, l] := by
    intro z
    rcases List.mem_cons.mp z with q | q
    · exact hSi q
    · exact hSl (List.mem_singleton.mp q)
  have hT : s.TypeIs (.ref it) "list_reverseiterator" := hit.typeIs
  unfold Builtin.List.listExtendWith
  refine wpAny_bind (wpAny_typeOf hT ?_)
  have e1 : Builtin.List.listSameRef (.ref S) (.ref it) = false := by simp [Builtin.List.listSameRef, hSi]
  rw [if_neg (by rw [e1]; decide)]
  refine wpAny_bind (wpAny_pyIter_revIter hit (wpAny_bind (wpAny_holding ?_)))
  unfold Builtin.List.listLengthHint
  refine wpAny_bind (wpAny_specialOf hT RT.nolen_lri ?_)
  show wpAny _ _ (specialOf (Value.ref it) (Str.ofString "__length_hint__") >>= _) _ _ _
  refine wpAny_bind (wpAny_specialOf hT RT.hint_lri ?_)
  generalize hid : ("list_reverseiterator.__length_hint__" : String) = id0
  wp_delta
  rw [show splitId id0 = some ("list_reverseiterator", "__length_hint__") from by subst hid; decide +kernel]
  subst hid
  refine wpAny_bind (wpAny_isInstance (b := true) hT (by rw [isSubtype_type]; kernel_rfl) (wpAny_pure ?_))
  rw [if_neg (by decide)]
  have e0 : ((items.size : Nat) : Int) - 1 - ((0 : Nat) : Int) = (items.size : Int) - 1 := by omega
  refine wpAny_pure ⟨plainId_quiet F.plain_extend_loop _, codeAny_extend_loopS W hn S hSf res items.size 0 _ #[] c₀ rfl (Nat.zero_le _) ⟨Nat.zero_le _, by rw [e0]; exact hit, hl⟩ hS (ItemsOf.nil _) fun s' acc c' hm hS' hacc => ?_⟩
  rw [Moved.eq_with hm]
  refine hR s'.heap s'.toks acc c' (fun b o h1 h2 e => hm.heap b o (fun hmem => ?_) e) hS' hacc
  rcases List.mem_cons.mp hmem with q | q
  · exact h1 q
  · exact h2 (List.mem_singleton.mp q)
theorem call_list_revI {it l : Addr} {items : Array Value} {Q : Value → Shared → Prop} (hh : A.handled = none) (hit : s.heap.IsRevIter it l ((items.size : Int) - 1)) (hl : s.heap.IsList l items) (hne : l ≠ it) (hn : items.size ≤ sizeLine)
    (hQ : ∀ h' tk acc c', (∀ b o, b ≠ it → s.heap.get? b = some o → h'.get? b = some o) → h'.get? s.heap.objs.size = some { cls := .type "list", dict := none, data := .seq acc c', slots := #[] } →
      ItemsOf (fun i v => items[items.size - 1 - i]? = some v) acc items.size → Q (.ref s.heap.objs.size) { s with heap := h', toks := tk }) :
    wpAny (model prog w) A (PySem.call (.type "list") [.ref it]) Q E s := by
  refine callType_codes (Q₁ := fun obj s₁ => obj = .ref s.heap.objs.size ∧ s₁ = { s with heap := s.heap.push { cls := .type "list", data := .seq #[] } }) PySem.F.called_list (PySem.F.typeCall_list_1 _) PySem.F.entry_list_init
    (code_list_new _ ⟨rfl, rfl⟩) fun obj s₁ h₁ => ?_
  obtain ⟨rfl, rfl⟩ := h₁
  generalize hSz : s.heap.objs.size = S
  have hS : (s.heap.push { cls := .type "list", data := .seq #[] }).get? S = some { cls := .type "list", data := .seq #[] } := by rw [← hSz]; exact Heap.get?_push_size _ rfl
  obtain ⟨oi, hoi, _⟩ := id hit
  obtain ⟨ol, hol, _⟩ := id hl
  have hSi : S ≠ it := by rw [← hSz]; exact Nat.ne_of_gt (Heap.lt_size hoi)
  have hSl : S ≠ l := by rw [← hSz]; exact Nat.ne_of_gt (Heap.lt_size hol)
  refine ⟨⟨_, hS, rfl⟩, PySem.F.args_list_init_2 _ _, ?_⟩
  show wpAny _ _ (do let old ← Builtin.List.listItems (.ref S); Builtin.List.listUpdate (.ref S) (fun _ => #[]); letGo old.toList.reverse; Builtin.List.listExtendWith (.ref S) (.ref it) .none) _ _ _
  refine wpAny_bind ?_
  unfold Builtin.List.listItems
  refine wpAny_bind (wpAny_seqItems hS rfl (wpAny_pure ?_))
  refine wpAny_bind (m := Builtin.List.listUpdate (.ref S) (fun _ => #[])) ?_
  unfold Builtin.List.listUpdate
  refine wpAny_updateSeq hS rfl ?_
  have hS2 := Heap.get?_update_self (Obj.mapSeq (fun _ => (#[] : Array Value))) hS rfl
  have oth : ∀ b o, b ≠ S → s.heap.get? b = some o → ((s.heap.push { cls := .type "list", data := .seq #[] }).update S (Obj.mapSeq (fun _ => (#[] : Array Value)))).get? b = some o :=
    fun b o hb e => (Heap.get?_update_other _ _ (Ne.symm hb)).trans (Heap.get?_push_of_some _ e)
  refine wpAny_bind (wpAny_letGo ?_)
  refine rev_fill (A := A.in1) (c₀ := _) (items := items) (l := l) hh (hit.at fun o e => oth it o (Ne.symm hSi) e) ?_ hne hn hSi hSl hS2 (fun h' tk acc c' hk hS' hacc => ?_)
  · obtain ⟨ol, hol, hr⟩ := id hl
    exact ⟨ol, oth l ol (Ne.symm hSl) hol, hr⟩
  · rw [← hSz] at hS'
    refine ⟨rfl, ?_⟩
    have q := hQ h' tk acc c' (fun b o hb e => ?_) hS' hacc
    · rw [hSz] at q
      exact q
    · have hb2 : b ≠ S := by rw [← hSz]; exact Nat.ne_of_lt (Heap.lt_size e)
      exact hk b o hb2 hb (oth b o hb2 e)
end
section
variable {X : Cx} {G : Gn} {e : Expr} {aa : AE} {m : Mode}
/-- list(reversed(x)), x a list: a new list -/
def tLstRev (K : Frag) (te : TE) : TE := fun σ H Q => te σ H fun v H1 => ∃ (a : Addr) (xs : List V), v = .ref a ∧ SqL K H1 a xs ∧ ∀ q, H1 q = none → Q (.ref q) (upd H1 q (.lst xs.reverse))
theorem pe_lstRev {te : TE} {p p2 pos pos2 : Pos} (hc : X.calm = true) (hg : Gl X "list") (hm : X.mg "list" = none) (hg2 : Gl X "reversed") (hm2 : X.mg "reversed" = none) (he : PE X e te)
    (hs : starEach [e] X.env = (false, eval e X.env) :: starEach [] X.env)
    (hs2 : starEach [.Call (.Name "reversed" p2) [e] [] pos2] X.env = (false, eval (.Call (.Name "reversed" p2) [e] [] pos2) X.env) :: starEach [] X.env) :
    PE X (.Call (.Name "list" p) [.Call (.Name "reversed" p2) [e] [] pos2] [] pos) (tLstRev X.K te) := by
  refine ⟨fun pins s σ H Q I h => Call_ (ld_blt I hg hm boot_list (PyProof.Rows.callWith_type1 (args_cons (Call_ (ld_blt I hg2 hm2 PyProof.Rows.boot_reversed (PyProof.Rows.callWith_type1 (args_cons (thn (he.run pins s σ H _ I h) fun u s1 ⟨v, H1, I1, r1, q1⟩ => args_nil ?_) hs) hs rfl))) hs2) hs2 rfl))⟩
  obtain ⟨a, xs, rfl, hq, q⟩ := q1
  obtain rfl : u = Value.ref a := r1
  obtain ⟨its, rv, p', hz⟩ := I1.list hq
  refine call_reversed_list p'.isList (args_nil ?_)
  generalize hro : revObj a ((its.toArray.size : Int) - 1) = ro
  have k0 : ∀ b o, s1.heap.get? b = some o → (s1.heap.push ro).get? b = some o := fun b o z => Heap.get?_push_of_some _ z
  have I2 : Inv X pins σ H1 { s1 with heap := s1.heap.push ro } := I1.kept (t' := s1.toks) k0
  obtain ⟨f0, f1, f2, f3, f4, f5⟩ := I1.fpOk (H' := H1) (b := s1.heap.objs.size) (Nat.le_refl _) (I1.hok.fresh (Nat.le_refl _))
  have hl := p'.isList
  obtain ⟨ol, hol, _⟩ := id hl
  have hne : a ≠ s1.heap.objs.size := Nat.ne_of_lt (Heap.lt_size hol)
  have hn : its.toArray.size ≤ sizeLine := by rw [List.size_toArray, ← rv.length]; exact hz
  have hri : ({ s1 with heap := s1.heap.push ro } : Shared).heap.IsRevIter s1.heap.objs.size a ((its.toArray.size : Int) - 1) := by
    rw [← hro]
    exact ⟨_, Heap.get?_push_size _ rfl, rfl, rfl⟩
  have hDn : H1 (s1.heap.push ro).objs.size = none := I1.hok.fresh (by rw [Heap.size_push]; exact Nat.le_succ _)
  have hne2 : (s1.heap.push ro).objs.size ≠ s1.heap.objs.size := by rw [Heap.size_push]; exact Nat.succ_ne_self _
  refine call_list_revI (s := { s1 with heap := s1.heap.push ro }) (I1.ok.hd hc) hri (hl.push _) hne hn fun h' tk acc c' hk hS hi => ?_
  have hlen : xs.reverse.length ≤ sizeLine := by rw [List.length_reverse]; exact hz
  have hv : Vals xs.reverse acc.toList := RT.vals_rev rv hi
  have I3 := I2.laid (a := (s1.heap.push ro).objs.size) (o := .lst xs.reverse) (t' := tk) (h' := (s1.heap.push ro).push { cls := .type "list", data := .seq acc c' }) (fun b o z => Heap.get?_push_of_some _ z) (Nat.le_refl _)
    (show ObjOk X.prog X.w _ _ _ (.lst xs.reverse) from ⟨hlen, acc.toList, c', hv, by rw [Array.toArray_toList]; exact Heap.get?_push_size _ rfl⟩)
  have I4 := I3.turned (t' := tk) (h' := h') (it := s1.heap.objs.size) (fun b o hb z => ?_) (by rw [upd_ne (Ne.symm hne2)]; exact f0) f1 f3 f4 f5
  · exact ⟨.ref (s1.heap.push ro).objs.size, _, I4, rfl, q _ hDn⟩
  · by_cases hbS : b = (s1.heap.push ro).objs.size
    · rcases Heap.get?_push_cases z with ⟨_, e⟩ | z2
      · rw [hbS, e]
        exact hS
      · exact hk b o hb z2
    · rcases Heap.get?_push_cases z with ⟨e, _⟩ | z2
      · exact absurd e hbS
      · exact hk b o hb z2
def aLstRev (m : Mode) (a : AE) : AE := fun ρ Ω Φ => a ρ Ω fun x Ω' => rdS x Ω' fun ds => (match x with | .d (.tuple _) => False | _ => True) ∧ newL m ds.reverse Ω' Φ
theorem je_listRev {p p2 pos pos2 : Pos} (hm : MOk (enX X G) m) (hc : X.calm = true) (hg : Gl X "list") (hml : X.mg "list" = none) (hg2 : Gl X "reversed") (hm2 : X.mg "reversed" = none) (ha : JE X G e aa)
    (hs : starEach [e] X.env = (false, eval e X.env) :: starEach [] X.env := by rfl)
    (hs2 : starEach [.Call (.Name "reversed" p2) [e] [] pos2] X.env = (false, eval (.Call (.Name "reversed" p2) [e] [] pos2) X.env) :: starEach [] X.env := by rfl) :
    JE X G (.Call (.Name "list" p) [.Call (.Name "reversed" p2) [e] [] pos2] [] pos) (aLstRev m aa) := by
  obtain ⟨t, h1, h2⟩ := ha
  refine ⟨_, pe_lstRev hc hg hml hg2 hm2 h1 hs hs2, ⟨fun {ρ Ω Φ} h {P F H σ Q} o rp k => h2.go h o rp fun {v sv Ω1 F1 H1} q o1 s1 r1 => ?_⟩⟩
  obtain ⟨a, vs, ds, rfl, hs, da, q⟩ := rdL_of_S q o1 r1
  exact ⟨a, vs, rfl, hs, fun p hp => newL_ok hm o1 (dqa_rev da) q (fun q2 o2 s2 r2 => k q2 o2 (s1.trans s2) r2) hp⟩
end
end Z
/-! Zw: the law's end, for a def that is only called where no repr is under way. -/
namespace Z
open PySem PySem.Spec PyProof.Rows L2
section
variable {P : Program} {w : World} {K : Frag} {mg mb : Str → Option Value} {k : Nat} {fa a : Addr} {fd : FuncData} {x : Str} {sp : Sp} {s : Shared} {vs : List Value} {ns : List Int}
/-- what the law's call must come to -/
abbrev WellDone (s0 : Shared) : Except Value Flow → Shared → Prop := fun r s' => r = .ok (.ret (.bool true)) ∧ OldK s0.heap s'.heap ∧ s'.os = s0.os ∧ AllBare s'.gens
/-- .. from a heap of tracked objects in which at most the script lies -/
theorem lawG_in {H : Hp} (kin : K.In s.heap) (gns : s.heap.Ns mainGlobals mg) (bns : s.heap.Ns builtinsNs mb) (bok : ∀ y : Str, y ≠ "__name__" → mb y = bootBuiltins y) (nol : s.heap.NoLimit) (ng : s.gens = #[])
    (obj : s.heap.get? a = some { cls := .type "list", data := .seq vs.toArray }) (rm : Room k callerA)
    (F : ∀ b : Heap, K.In b → b.Ns mainGlobals mg → FnG P w K mg b CX0 k fa fd [x] sp) (bd : ∀ (z : Shared) (u : Value), BindsTo z fd ⟨[u], []⟩ [(x, u)])
    (only : Only H) (hs : sp [.ref a] H (fun v _ => v = .bl true) fun _ _ _ => False) (hok : HOk P w H s.heap) (just : ∀ b, H b ≠ none → b = a) (out : H a ≠ none → K.lookup a = none) :
    codeAny (model P w) callerA (.call (.ref fa) ⟨[.ref a], []⟩) (WellDone s) s := by
  have isA : ∀ {b : Addr} {u : HO}, H b = some u → b = a := fun {b u} e => just b fun z => by rw [e] at z; cases z
  have free : ∀ {b : Addr} {o : Obj} {es : Array DictEntry} {ep : Nat}, s.heap.get? b = some o → o.data = .dict es ep → H b = none := by
    intro b o es ep e d
    rcases hb : H b with _ | u
    · rfl
    · cases isA hb
      cases obj.symm.trans e
      exact absurd (show Data.seq vs.toArray _ = Data.dict es ep from d) (fun z => by cases z)
  have ns' : ∀ {b : Addr} {m : Str → Option Value}, s.heap.Ns b m → (hidT s.heap H).Ns b m := by
    rintro b m ⟨o, es, ep, e, d, r⟩
    exact ⟨o, es, ep, hidT_get e (free e d), d, r⟩
  have kin' : K.In (hidT s.heap H) := by
    intro b o e
    refine hidT_get (kin b o e) ?_
    rcases hb : H b with _ | u
    · rfl
    · cases isA hb
      have z := out (by rw [hb]; exact fun q => by cases q)
      cases z.symm.trans e
  obtain ⟨mc, c1, c2⟩ := nol
  have env : Env0 P w K mg (hidT s.heap H) callerA [] s H :=
    ⟨rfl, ⟨kin', ns' gns, ⟨mb, ns' bns, bok⟩, ⟨mc, ns' c1, c2⟩⟩, fun _ _ e => of_hidT e, Nat.le_of_eq (hidT_size _ _), trivial, fun _ z => absurd (show _ ∈ ([] : List Addr) from z) (by simp), hok, .of_eq ng⟩
  refine codeAny_mono ((F _ kin' (ns' gns)).go callerA [] s H ⟨[.ref a], []⟩ [.ref a] [.ref a] _ _ rm rfl env (bd s (.ref a)) (.cons rfl .nil) hs) fun r s' got => ?_
  match r, got with
  | .error _, got => exact got.elim
  | .ok .next, got => exact got.elim
  | .ok .brk, got => exact got.elim
  | .ok .cont, got => exact got.elim
  | .ok (.ret u), got =>
    obtain ⟨v, H', os, bare, un, hok', ru, rfl⟩ := got
    cases (show u = Value.bool true from ru)
    refine ⟨rfl, OldK.of_keep fun b o e => ?_, os, bare⟩
    rcases hb : H b with _ | u
    · exact un.keep b o e hb (fun z => absurd (show b ∈ ([] : List Addr) from z) (by simp)) (by simp)
    · rcases only b with z | ⟨ob, xs, z⟩
      · cases z.symm.trans hb
      · have g1 := (hok b _ z).1
        cases g1.symm.trans e
        exact (hok' b _ (un.frzs b _ _ z)).1
theorem lawG (kin : K.In s.heap) (gns : s.heap.Ns mainGlobals mg) (bns : s.heap.Ns builtinsNs mb) (bok : ∀ y : Str, y ≠ "__name__" → mb y = bootBuiltins y) (nol : s.heap.NoLimit) (ng : s.gens = #[])
    (obj : s.heap.get? a = some { cls := .type "list", data := .seq vs.toArray }) (hi : IntsAre vs ns) (hl : ns.length ≤ sizeLine) (rm : Room k callerA)
    (F : ∀ b : Heap, K.In b → b.Ns mainGlobals mg → FnG P w K mg b CX0 k fa fd [x] sp) (bd : ∀ (z : Shared) (u : Value), BindsTo z fd ⟨[u], []⟩ [(x, u)])
    (hsp : ∀ H : Hp, Only H → SqL K H a (ns.map V.int) → sp [.ref a] H (fun v _ => v = .bl true) fun _ _ _ => False) :
    codeAny (model P w) callerA (.call (.ref fa) ⟨[.ref a], []⟩) (WellDone s) s := by
  have ru := vals_ints hi
  rcases hk : K.lookup a with _ | o
  · -- the script stands outside the written part
    let o : Obj := { cls := .type "list", data := .seq vs.toArray }
    let H : Hp := fun b => if b = a then some (.frz o (.lst (ns.map V.int))) else none
    have at_ : H a = some (.frz o (.lst (ns.map V.int))) := if_pos rfl
    have off : ∀ {b}, b ≠ a → H b = none := fun h => if_neg h
    have only : Only H := fun b => by
      by_cases e : b = a
      · subst e; exact .inr ⟨_, _, at_⟩
      · exact .inl (off e)
    refine lawG_in (H := H) kin gns bns bok nol ng obj rm F bd only (hsp H only (.inl (.inr ⟨o, at_⟩))) (fun b u z => ?_) (fun b z => Classical.byContradiction fun e => z (off e)) fun _ => hk
    by_cases e : b = a
    · subst e
      cases at_.symm.trans z
      exact ⟨obj, by rw [List.length_map]; exact hl, vs, _, ru, obj⟩
    · cases (off e).symm.trans z
  · have e := kin a o hk
    cases obj.symm.trans e
    have only : Only fun _ => none := fun _ => .inl rfl
    refine lawG_in (H := fun _ => none) kin gns bns bok nol ng obj rm F bd only (hsp _ only (.inr ⟨_, vs.toArray, _, hk, rfl, rfl, rfl, by rw [List.size_toArray, hi.length]; exact hl, by simpa using ru⟩)) (fun b u z => ?_) (fun b z => absurd rfl z) fun z => absurd rfl z
    cases (show (none : Option HO) = some u from z)
end
/-- the script: a list of ints, of at most n, each of at most 2^20 bits -/
def ScrOk (n : Nat) (ns : List Int) : Prop := ns.length ≤ n ∧ ∀ z ∈ ns, Builtin.Int.intBits z ≤ 1048576
theorem dqa_ofInts {K : Frag} {F : Hp} : ∀ ns : List Int, DqAll K F (ns.map V.int) (ns.map PyData.int)
  | [] => .nil
  | n :: r => .cons (.int n) (dqa_ofInts r)
theorem ok_start {K : Frag} {H : Hp} : Ok ⟨⟨H, H, fun _ => none⟩, K⟩ (fun _ => none) H H [] :=
  ⟨Same.refl _, fun _ _ z => (by cases z), fun _ z => absurd z (by simp), fun _ z => absurd rfl z, Same.refl H, fun _ h1 h2 => absurd h2 h1, fun _ e => e, Same.refl H, fun _ z => absurd z (by simp), .nil⟩
/-- what the law promises: at a script of at most n ints, True -/
inductive LawC (n : Nat) : Con where
  | mk {ns : List Int} {Φ : PhiE} {Ξ : XA} : ScrOk n ns → (∀ Ω, Φ (.d (.bool true)) Ω) → LawC n [.l (ns.map PyData.int)] [] Φ Ξ
theorem LawC.ari {n : Nat} : Ari (LawC n) 1 := by rintro _ _ _ _ ⟨_, _⟩; rfl
/-- THE END -/
theorem walk {l : PySem.W.OpenLaw} {n k : Nat} {q : Program} {loose : List Str} {XP : (Str → Option Value) → Heap → Prop} {YP : World → Heap → Prop} {d : DefRec} {K : Params → Frag} {x : Str}
    (hn : l.most = some n) (hdf : d.params.defaults = []) (in_ : ∀ (w : World) (h : Heap), YP w h → (K w.params).In h) (hr : Room k callerA) (hz : n ≤ sizeLine)
    (F : ∀ (w : World) (mg : Str → Option Value) (fa : Addr) (h : Heap), (K w.params).In h → h.Ns mainGlobals mg → mg d.name = some (.ref fa) →
      ∃ fd : FuncData, (∀ (s : Shared) (v : Value), BindsTo s fd ⟨[v], []⟩ [(x, v)]) ∧ ∀ b : Heap, (K w.params).In b → b.Ns mainGlobals mg → FnG l.prog w (K w.params) mg b CX0 k fa fd [x] (spOf (K w.params) (LawC n))) :
    PySem.W.WalkO q loose XP YP l.row.toRowW d [] fun f vs => PySem.call f vs := by
  refine Att.attach_callB hn hdf fun w _ s mg mb fa _ _ _ _ a vs ns G Y _ _ _ nm obj iv len bits ng => ?_
  have kin := in_ w _ Y
  obtain ⟨fd, bd, f⟩ := F w mg fa _ kin G.T.g nm
  exact lawG kin G.T.g G.T.b G.T.builtins G.T.nolimit ng obj iv (Nat.le_trans len hz) hr f bd fun H _ hs =>
    ⟨_, H, [], [.l (ns.map PyData.int)], fun x _ => x = .d (.bool true), fun _ _ => False, ok_start, .cons ⟨a, _, rfl, hs, dqa_ofInts ns⟩ .nil, .mk ⟨len, bits⟩ fun _ => rfl,
      fun v sv Ω' P' F' H' e o' r => (by subst e; exact dqb r), fun _ _ _ _ _ _ _ z => z.elim⟩
end Z
/-! Z8: raise, try .. except .. as, what is asked of an exception in hand. -/
namespace Z
open PySem PySem.Spec PyProof.Rows L2
/-! ### C() -/
section
variable {X : Cx} {C : Addr} {bmB : List Value} {B newId initId : String} {x : Str} {p pos : Pos}
theorem mk_own0 (F : ExcBaseFacts B newId initId bmB) (q : PySem.W.excIn X.K C bmB newId = true) (gC : X.mg x = some (.ref C)) (kC : PySem.W.keepIn X.K (.ref C) = true) (r : Raises X (.ref C)) (hg : Gl X x) (db : (x == ("__debug__" : Str)) = false := by decide) :
    L2N.PMk X (.Call (.Name x p) [] [] pos) fun _ H Q => Q (.ref C) none H := by
  intro pins s σ H Q I h
  refine wpAny_Call_Name_kw (ld_glob I hg gC (PySem.W.callWith_K0 I.kIn kC ?_) db)
  obtain ⟨_, _, _, _, _, _, _, _, _, _, _, _, _, _, _, _, _, hC, hN, hni, T⟩ := exc_obj I.kIn q
  exact wpAny_call_exc_subT F T hC hN hni (fun h' e hm => L2N.mk_of I hm r h (I.hok.gone hm.new)) (Nat.zero_le _)
end
/-! ### raise -/
section
variable {X : Cx} {G : Gn} {e : Expr} {pos : Pos} {C : Addr} {W : WX} {Ξ : Rho → XA}
theorem noTakes {X : Cx} : L2N.Takes X (fun _ _ _ _ => False) := by
  rintro u s' ⟨_, _, _, _, _, _, _, _, _, _, _, _, _, _, _, _, w⟩
  exact w.elim
def aRaise (Ξ : Rho → XA) (c : Value) : AS := fun _ ρ Ω => Ξ ρ (c, none) Ω
theorem js_raise (hc : X.calm = true) (tk : L2N.Takes X W) (hW : XOk X G (WE W) Ξ) (mk : L2N.PMk X e fun _ H Q => Q (.ref C) none H) : JS X G (.Raise (some e) none pos) (aRaise Ξ (.ref C)) :=
  ⟨_, L2N.ps_raise hc tk mk, ⟨fun {D ρ Ω} h {P F H σ D'} _ o rp => hW h o rp ⟨rfl, trivial⟩⟩⟩
end
/-! ### try .. except C as n -/
def aTry (i : Nat) (c : Value) (ab : (Rho → XA) → AS) (su : Addr → AS) : AS := fun D ρ Ω =>
  ab (fun ρ' x Ω' => x = (c, none) ∧ ∀ a, su a { D with nx := fun ρ2 Ω2 => D.nx (ρ2.set i none) Ω2, bk := fun ρ2 Ω2 => D.bk (ρ2.set i none) Ω2, ct := fun ρ2 Ω2 => D.ct (ρ2.set i none) Ω2 } (ρ'.set i (some (.r (.ref a)))) Ω') D ρ Ω
section
variable {X : Cx} {G : Gn} {x n : Str} {cls c : Value} {i : Nat} {body suite : List Stmt} {b₀ : Stmt} {np pos pos' : Pos} {ab : (Rho → XA) → AS} {su : Addr → AS}
theorem js_tryAs (hs : X.stack = X.env :: X.outer) (hf : X.env.frame = some X.env.locals) (hN : X.N.Nodup) (hi : X.N[i]? = some n) (hln : X.env.kindOf n = some .local) (hc : Names X x c) (hx : PySem.W.exmOne X.K cls c = some true)
    (hb : ∀ (G' : Gn) (Ξ : Rho → XA) (W : WX) (pn : List (Addr × Obj)) (xe : Value → Shared → Prop), (∀ a, G'.H0 a = none → G.H0 a = none) → XOk X G' (WE W) Ξ → L2N.Takes (X.tr pn xe) W → PassesOwn (model X.prog X.w) X.A X.env xe → JSs (X.tr pn xe) G' body (ab Ξ))
    (hsu : ∀ (a : Addr) (oe : Obj) (pn : List (Addr × Obj)), L2N.Zn cls none oe → (∃ vs, oe.data = .fields vs) → JSs (X.suite a ((a, oe) :: pn)) G (b₀ :: suite) (su a)) :
    JS X G (.Try body [.ExceptHandler (some (.Name x np)) (some n) (b₀ :: suite) pos'] [] [] pos) (aTry i cls ab su) := by
  refine ⟨_, L2N.ps_try_as (i := i) (Wout := fun _ _ _ _ => False)
    (tb := fun W D σ H => ∃ (G' : Gn) (Ξ : Rho → XA) (hg : ∀ a, G'.H0 a = none → G.H0 a = none) (hx : XOk X G' (WE W) Ξ), ∀ pn xe (tk : L2N.Takes (X.tr pn xe) W) (po : PassesOwn (model X.prog X.w) X.A X.env xe), Classical.choose (hb G' Ξ W pn xe hg hx tk po) D σ H)
    (ts := fun a cl d D σ H => cl = cls ∧ d = none ∧ ∀ oe pn (hz : L2N.Zn cls none oe) (hf : ∃ vs, oe.data = .fields vs), Classical.choose (hsu a oe pn hz hf) D σ H)
    hs hf hN hi hln hc noTakes (fun W pn xe tk po => ⟨fun pins s σ H D I h => ?_⟩) (fun a oe cl d pn hz hf => ⟨fun pins s σ H D I h => ?_⟩), ⟨fun {D ρ Ω} h {P F H σ D'} k o rp => ?_⟩⟩
  · obtain ⟨G', Ξ, hg, hx, h⟩ := h
    exact (Classical.choose_spec (hb G' Ξ W pn xe hg hx tk po)).1.run pins s σ H D I (h pn xe tk po)
  · obtain ⟨rfl, rfl, h⟩ := h
    exact (Classical.choose_spec (hsu a oe pn hz hf)).1.run pins s σ H D I (h oe pn hz hf)
  · have hg : ∀ a, H a = none → G.H0 a = none := fun a e => o.dm a e
    have hX : XOk X ⟨F, H, P⟩ (WE (wAs X.K c i (fun a cl d D σ H => cl = cls ∧ d = none ∧ ∀ oe pn (hz : L2N.Zn cls none oe) (hf : ∃ vs, oe.data = .fields vs), Classical.choose (hsu a oe pn hz hf) D σ H) (fun _ _ _ _ => False) D'))
        (fun ρ' x Ω' => x = (cls, none) ∧ ∀ a, su a { D with nx := fun ρ2 Ω2 => D.nx (ρ2.set i none) Ω2, bk := fun ρ2 Ω2 => D.bk (ρ2.set i none) Ω2, ct := fun ρ2 Ω2 => D.ct (ρ2.set i none) Ω2 } (ρ'.set i (some (.r (.ref a)))) Ω') := by
      intro σ1 ρ1 y Ω1 P1 F1 H1 cl d hy o1 rp1 rx
      obtain ⟨rfl, hy⟩ := hy
      have s1 : Same F F1 := o1.f0
      have o2 := o.leave o1
      have dn : d = none := by
        cases d with
        | none => rfl
        | some _ => exact rx.2.elim
      refine ⟨true, by rw [rx.1]; exact hx, fun _ a _ => ⟨rx.1, dn, fun oe pn hz hf => ?_⟩, fun z => by cases z⟩
      exact (Classical.choose_spec (hsu a oe pn hz hf)).2.go (hy a)
        ⟨fun q o' s' r => k.nx q o' (s1.trans s') (pr_set (R := RpS X.K _) (x := none) (y := none) trivial i r), fun q o' s' r => k.rt q o' (s1.trans s') r, fun q o' s' r => k.bk q o' (s1.trans s') (pr_set (R := RpS X.K _) (x := none) (y := none) trivial i r), fun q o' s' r => k.ct q o' (s1.trans s') (pr_set (R := RpS X.K _) (x := none) (y := none) trivial i r)⟩ o2
        (pr_set (R := RpS X.K _) (y := some (SV.r (.ref a))) ⟨V.ref a, rfl, rfl⟩ i rp1)
    exact ⟨⟨F, H, P⟩, _, hg, hX, fun pn xe tk po => (Classical.choose_spec (hb ⟨F, H, P⟩ _ _ pn xe hg hX tk po)).2.go h
      ⟨fun q o' s' r => k.nx q (o.leave o') s' r, fun q o' s' r => k.rt q (o.leave o') s' r, fun q o' s' r => k.bk q (o.leave o') s' r, fun q o' s' r => k.ct q (o.leave o') s' r⟩ o.enter rp⟩
end
/-! ### isinstance(e, C), e the exception in hand -/
def acIsE (a : Addr) (cv : V) (b : Bool) : AC := fun xs Ω Φ => match xs with
  | [.r (.ref a'), .r c] => a' = a ∧ c = cv ∧ Φ (.d (.bool b)) Ω
  | _ => False
section
variable {X : Cx} {G : Gn} {D a : Addr} {oe : Obj} {cv : V} {b : Bool} {cw : Value}
theorem jc_isE (hp : (a, oe) ∈ X.pn) (C : ExcC X.K D) (hz : L2N.Zn (.ref D) none oe) (hf : ∃ vs, oe.data = .fields vs) (hv : ∀ u, RelV cv u → u = cw) (hk : PySem.W.kitOne X.K (.ref D) cw = some b) : JC X G (.builtin "isinstance") (acIsE a cv b) := by
  refine ⟨fun xs H Q => xs = [.ref a, cv] ∧ Q (.bl b) H, fun pins s σ H xs us Q I r h => ?_, ⟨fun {svs Ω Φ} h {P F H vs Q} o r k => ?_⟩⟩
  · obtain ⟨rfl, q⟩ := h
    obtain ⟨u, w, rfl, ru, rw_⟩ : ∃ u w, us = [u, w] ∧ RelV (.ref a) u ∧ RelV cv w := by
      cases r with
      | cons h1 r =>
        cases r with
        | cons h2 r => cases r; exact ⟨_, _, rfl, h1, h2⟩
    obtain rfl : u = Value.ref a := ru
    obtain rfl := hv _ rw_
    have there := (I.pin (a, oe) (List.mem_append_left _ hp)).1
    obtain ⟨vs, hd⟩ := hf
    have J : PySem.W.InstAt s.heap a oe D none := by
      obtain ⟨c0, d0, t0, l0⟩ := oe
      obtain ⟨z1, z2, -⟩ := hz
      cases (show c0 = _ from z1)
      cases (show d0 = _ from z2)
      cases (show t0 = _ from hd)
      exact ⟨there, rfl, rfl, trivial⟩
    exact PySem.W.kia_one (PySem.W.handS_kitx_exc C.hg C.hk C.hs C.hd C.ha C.hn C.ht C.hm) I.kIn J hk (fun z => by cases z) fun tk => ⟨.bl b, H, I.kept (t' := tk) fun _ _ z => z, rfl, q⟩
  · unfold acIsE at h
    split at h
    · obtain ⟨rfl, rfl, h⟩ := h
      obtain ⟨v, w, rfl, r1, r2⟩ := pr2 r
      cases (show v = _ from r1)
      cases (show w = _ from r2)
      exact ⟨rfl, k h o (Same.refl F) (.bl _)⟩
    · exact h.elim
end
/-! ### a def that is called with the exception in hand -/
inductive IsC (a : Addr) (c : Bool) : Con where
  | mk {Ω : Om} {Φ : PhiE} {Ξ : XA} : Φ (.d (.bool c)) Ω → IsC a c [.r (.ref a)] Ω Φ Ξ
structure FnE (P : Program) (w : World) (K : Frag) (mg : Str → Option Value) (base : Heap) (D : Addr) (k : Nat) (f : Addr) (fd : FuncData) (ps : List Str) (c : Bool) : Prop where
  one : ps.length = 1
  go : ∀ (A : Around) (outer : List Env) (s : Shared) (H : Hp) (args : Args) (Q : VK) (E : XK) (p : Addr × Obj), L2H.RoomH k A → A.guards = some [] → L2H.Hot1 A p → L2H.PinOk outer H s p → L2N.Zn (.ref D) none p.2 → Env0 P w K mg base A outer s H → BindsTo s fd args (ps.zip [.ref p.1]) →
    spOf K (IsC p.1 c) [.ref p.1] H Q E → codeAny (model P w) A (.call (.ref f) args) (CR CX0 outer P w H s Q E) s
section
variable {P : Program} {w : World} {K : Frag} {mg : Str → Option Value} {base : Heap} {D : Addr} {k : Nat} {f : Addr} {fd : FuncData} {ps N : List Str} {c : Bool} {x qual : Str} {st : Stmt} {as : Addr → AS}
theorem fnE_of (Fu : Fun K x qual st f fd) (S : FnScope N ps (defScope st)) (h1 : ps.length = 1)
    (hb : ∀ (cdv : Value) (A : Around) (outer : List Env) (s : Shared) (H : Hp) (E : XK) (G : Gn) (p : Addr × Obj), A.guards = some [] → L2H.Hot1 A p → L2N.Zn (.ref D) none p.2 → L2H.RoomH k (A.deeper (envOfC qual (defScope st) s.heap.objs.size f cdv)) →
      JSs (L2H.cxH CX0 P w K mg base N qual (defScope st) f cdv A outer s H E p) G (defBody st) (as p.1))
    (hw : ∀ (a : Addr) (Ω : Om) (Φ : PhiE), Φ (.d (.bool c)) Ω → as a { nx := fun _ Ω => Φ (.d .none) Ω, rt := Φ } (startR N [.r (.ref a)]) Ω) : FnE P w K mg base D (k + 1) f fd ps c := by
  obtain ⟨oc, od, kV, doc, pm, an, cdv, ct, osl, rfl, lk, hcd⟩ := Fu.ex
  refine ⟨h1, fun A outer s H args Q E p hr hgd hot hpin hz e0 hbd hsp => ?_⟩
  have old := fun b o e => (e0.bs b o e).1
  have kin : K.In s.heap := e0.mod.kin.keeps old
  have nol : s.heap.NoLimit := e0.mod.nolimit.keeps old
  have kinds : ∀ y ∈ ps.zip [Value.ref p.1], (defScope st).names.lookup y.1 = some .local ∨ ((defScope st).names.lookup y.1 = some .cell ∧ ((cellsFrom (s.heap.objs.size + 1) (defScope st).names []).lookup y.1).isSome = true) := by
    rintro ⟨n, v⟩ hy
    exact (S.par n (List.of_mem_zip hy).1).elim .inl fun q => .inr ⟨q, PySem.W.cellsFrom_some _ _ _ (.inl q)⟩
  refine codeAny_call_function hr.depth (kin _ _ lk) rfl S.co S.gen rfl (PySem.W.codeRec_of kin hcd) (hbd _ _ _ _ (wpAny_newFunctionEnv_cells S.kind kinds fun env he s1 x => ?_))
  cases he
  refine ⟨nol.keeps x.toInCall.keep, codeAny_func ?_⟩
  obtain ⟨P0, F, Ω, svs, Φ, Ξ, o, r, h, k1, k2⟩ := hsp
  obtain ⟨hΦ⟩ := h
  obtain ⟨t, pt, sn⟩ := hb cdv A outer s H E ⟨F, H, P0⟩ p hgd hot hz (hr.deeper _)
  have rv : Vals [V.ref p.1] [Value.ref p.1] := .cons rfl .nil
  have I0 := L2H.inv_startH (CX := CX0) (P := P) (w := w) (mg := mg) (N := N) (E := E) (vs := [V.ref p.1]) S hpin e0 (by rw [h1]; rfl) rv x
  have q0 := sn.go (hw p.1 Ω Φ hΦ) (D' := { nx := fun _ H' => Q .non H', rt := Q }) ⟨fun z o' _ _ => k1 _ _ _ _ _ _ z o' Dq.non, fun z o' _ r' => k1 _ _ _ _ _ _ z o' r', fun z _ _ _ => z.elim, fun z _ _ _ => z.elim⟩ o (start_ok r)
  refine wpAny_mono (pt.run [] s1 _ H _ I0 q0) (fun fl s' hs => ?_) fun _ _ z => z
  cases fl with
  | ret u => obtain ⟨v, σ', H', J, rv, q⟩ := hs; exact ⟨v, H', J.os, J.bare, J.base, J.hok, rv, q⟩
  | next => obtain ⟨σ', H', J, q⟩ := hs; exact ⟨.non, H', J.os, J.bare, J.base, J.hok, rfl, q⟩
  | brk => obtain ⟨_, _, _, q⟩ := hs; exact q.elim
  | cont => obtain ⟨_, _, _, q⟩ := hs; exact q.elim
end
section
variable {X : Cx} {G : Gn} {D a : Addr} {oe : Obj} {k : Nat} {f : Addr} {fd : FuncData} {ps : List Str} {c : Bool} {x : Str} {e : Expr} {aa : AE} {p pos : Pos}
/-- f(e), e the exception that the suite holds -/
def aCallE (a : Addr) (c : Bool) (aa : AE) : AE := fun ρ Ω Φ => aa ρ Ω fun x Ω' => x = .r (.ref a) ∧ Φ (.d (.bool c)) Ω'
theorem je_callE (F : FnE X.prog X.w X.K X.mg X.base D k f fd ps c) (hr : L2H.RoomH k X.A) (hgd : X.A.guards = some []) (hot : L2H.Hot1 X.A (a, oe)) (hp : (a, oe) ∈ X.pn) (hz : L2N.Zn (.ref D) none oe) (hg : Gl X x) (hm : X.mg x = some (.ref f)) (hk : PySem.W.keepIn X.K (.ref f) = true)
    (hb : Binds X.K fd ps []) (ha : JE X G e aa) (hdb : (x == ("__debug__" : Str)) = false := by decide)
    (he : starEach [e] X.env = (false, eval e X.env) :: starEach [] X.env := by rfl) (hpl : (backTo pos (starEach [] X.env)).any (·.1) = false := by rfl) :
    JE X G (.Call (.Name x p) [e] [] pos) (aCallE a c aa) := by
  obtain ⟨t, h1, h2⟩ := ha
  refine ⟨fun σ H Q => t σ H fun v H1 => v = .ref a ∧ spOf X.K (IsC a c) [.ref a] H1 Q fun _ _ _ => False, ⟨fun pins s σ H Q I h => ?_⟩, ⟨fun {ρ Ω Φ} h {P F H σ Q} o rp k => ?_⟩⟩
  · refine wpAny_Call_Name_kw (ld_glob I hg hm (PySem.W.callWith_K (h₀ := X.base) I.ok.mod.kin hk ?_ he hpl) hdb)
    rw [he]
    refine Calls.spliced_cons (thn (h1.run pins s σ H _ I h) fun u s1 ⟨v, H1, I1, r, ev, q⟩ => ?_)
    refine Calls.spliced_nil ⟨I1.kIn, ?_⟩
    subst ev
    obtain rfl : u = Value.ref a := r
    have there := I1.pin (a, oe) (List.mem_append_left _ hp)
    have pin : L2H.PinOk X.stack H1 s1 (a, oe) := ⟨there.1, there.2.1, fun z => (List.mem_cons.mp (I1.stkSub a z)).elim there.2.2.1 there.2.2.2.1, there.2.2.2.2⟩
    refine wp_of_code (codeAny_mono (F.go X.A X.stack s1 H1 ⟨[.ref a], []⟩ Q _ (a, oe) hr hgd hot pin hz I1.env0 ?_ q) fun r s' hq => ?_)
    · have b := hb s1 [.ref a] I1.kIn (by rw [List.append_nil]; exact F.one.symm)
      rw [List.append_nil] at b
      exact b
    · match r, hq with
      | .error e, hq => exact hq.elim
      | .ok (.ret u), hq => exact I1.after hq
      | .ok .next, hq => exact hq
      | .ok .brk, hq => exact hq
      | .ok .cont, hq => exact hq
  · refine h2.go h o rp fun {v sv Ω1 F1 H1} q o1 s1 r1 => ?_
    obtain ⟨rfl, q⟩ := q
    cases (show v = _ from r1)
    exact ⟨rfl, _, F1, Ω1, _, Φ, fun _ _ => False, o1.enter, .cons (show Rp X.K F1 (V.ref a) (.r (.ref a)) from rfl) .nil, .mk q, fun v sv Ω' P' F' H' z o' r' => k z (o1.leave o') (s1.trans o'.f0) r', fun _ _ _ _ _ _ _ z => z.elim⟩
theorem hot_of {A : Around} {a : Addr} {oe : Obj} {cls : Value} {d : Option Addr} (hz : L2N.Zn cls d oe) (hf : ∃ vs, oe.data = .fields vs) (h : A.handled = some (.ref a)) : L2H.Hot1 A (a, oe) := by
  obtain ⟨vs, e⟩ := hf
  exact ⟨h, vs, e, hz.2.2 vs e⟩
end
/-! ### any(bs) with an exception in hand -/
section
variable {prog : Program} {w : World} {A : Around} {E : Value → Shared → Prop} {s : Shared}
theorem list_end_hot {it l x1 : Addr} {i : Nat} {items : Array Value} {Q : Option Value → Shared → Prop} (hot : HotX.HotAt A x1 s.heap) (ne : x1 ≠ it) (hit : s.heap.IsListIter it l i) (hl : s.heap.IsList l items) (hx : items[i]? = none)
    (k : ∀ h', (∀ b o, b ≠ it → s.heap.get? b = some o → h'.get? b = some o) → Q none { s with heap := h' }) : wpAny (model prog w) A (pyNext (.ref it)) Q E s := by
  obtain ⟨o, ho, _, hd⟩ := id hit
  obtain ⟨ol, hol, _, _, hdl⟩ := hl
  obtain ⟨hh, o1, vs1, g1, d1, c1⟩ := hot
  unfold pyNext
  refine wpAny_bind (wpAny_attempt (wpAny_callSpecial?_slot (name := Str.ofString "__next__") hit.typeIs slot_listiter_next (wpAny_call_entry slot_listiter_next hit.typeIs entry_listiter_next ?_ (args_listiter_next _))))
  show wpAny _ _ (field (.ref it) 0 >>= _) _ _ _
  refine wpAny_bind (wpAny_field ho hd (x := Value.ref l) rfl ?_)
  show wpAny _ _ (if (Value.ref l == Value.none) = true then _ else _) _ _ _
  rw [if_neg (by exact Bool.false_ne_true : ¬ ((Value.ref l == Value.none) = true))]
  show wpAny _ _ (field (.ref it) 1 >>= _) _ _ _
  refine wpAny_bind (wpAny_field ho hd (x := Value.int i 0) rfl ?_)
  show wpAny _ _ (seqItems? (.ref l) >>= _) _ _ _
  refine wpAny_bind (wpAny_seqItems hol hdl ?_)
  simp only [hx, Int.toNat_natCast]
  refine wpAny_bind (wpAny_rule (wpAny_bind (wpAny_setField ho hd (by simp) ?_)))
  show wpAny _ _ (newExc (.type "StopIteration") [] >>= _) _ _ (_ : Shared)
  refine wpAny_bind ?_
  simp only [newTuple, newExc]
  refine wpAny_bind (wpAny_newObj_type ?_ (by size_fits))
  refine wpAny_bind (m := firstArgMember _ _) (wpAny_of_eq (a := Value.none) (by first | rfl | (simp only [firstArgMember]; rfl)) (wpAny_newObj_type ?_ (by size_fits)))
  have g2 : (s.heap.update it (Obj.mapFields (·.setIfInBounds 0 Value.none))).get? x1 = some o1 := (Heap.get?_update_other _ _ (Ne.symm ne)).trans g1
  refine HotX.raiseNew_hot ⟨hh, o1, vs1, Heap.get?_push_of_some _ (Heap.get?_push_of_some _ g2), d1, c1⟩ (Nat.ne_of_lt (Heap.lt_size (Heap.get?_push_of_some _ g2))) (Heap.get?_push_size _ rfl) rfl (by first | (simp; done) | (simp; omega) | (simp only [Array.size_append]; simp; omega)) ?_
  refine wpAny_bind (wpAny_isInstance (T := "StopIteration") (b := true) ⟨_, Heap.get?_update_self _ (Heap.get?_push_size _ rfl) rfl, rfl⟩ isSubtype_stop (wpAny_pure (k _ fun b o hb e => ?_)))
  have g3 : (s.heap.update it (Obj.mapFields (·.setIfInBounds 0 Value.none))).get? b = some o := (Heap.get?_update_other _ _ (Ne.symm hb)).trans e
  rw [Heap.get?_update_other _ _ (Nat.ne_of_gt (Heap.lt_size (Heap.get?_push_of_some _ g3)))]
  exact Heap.get?_push_of_some _ (Heap.get?_push_of_some _ g3)
theorem walks_hot (I ax x1 : Addr) (h1 : ax ≠ I) (h2 : x1 ≠ I) (items : Array Value) : Walks prog w A I [I, ax, x1] [I] items.size (fun i v => items[i]? = some v) (fun i h => h.IsListIter I ax i ∧ h.IsList ax items ∧ HotX.HotAt A x1 h) where
  sub := fun b hb => by simp at hb; simp [hb]
  frame := fun i h h' st hk => ⟨st.1.at fun o e => hk I (by simp) o e, st.2.1.at fun o e => hk ax (by simp) o e, by
    obtain ⟨_, _, hh, o, vs, e, d, c⟩ := st
    exact ⟨hh, o, vs, hk x1 (by simp) o e, d, c⟩⟩
  item := fun i s Q E hi st hQ => by
    refine wpAny_pyNext_list_item st.1 st.2.1 (x := items[i]) (by simp [hi]) fun h' hit' hs' => ?_
    obtain ⟨_, _, hh, o, vs, e, d, c⟩ := st
    exact hQ _ h' s.toks (by simp [hi]) ⟨hit', (‹s.heap.IsList ax items›).extBut hs'.extBut h1, hh, o, vs, hs'.extBut x1 o h2 e, d, c⟩ fun b o hb e => hs'.extBut b o (fun z => hb (by simp [z])) e
  done := fun s Q E st hQ => list_end_hot st.2.2 h2 st.1 st.2.1 (by simp) fun h' he' => hQ h' s.toks fun b o hb e => he' b o (fun z => hb (by simp [z])) e
  self := fun _ _ _ _ st hQ => wpAny_pyIter_listiter st.1 hQ
end
section
variable {X : Cx} {G : Gn} {a : Addr} {oe : Obj}
theorem cr_anyH (hot : L2H.Hot1 X.A (a, oe)) (hp : (a, oe) ∈ X.pn) : CallR X (.builtin "any") (rAny X.K) := by
  intro pins s σ H vs us Q I r h
  obtain ⟨l, bs, rfl, hs, q⟩ := h
  obtain ⟨its, rv, hl, _⟩ := I.list hs
  rw [Vals.ref1 r]
  have hb := rv.bls
  have there := (I.pin (a, oe) (List.mem_append_left _ hp)).1
  obtain ⟨hh, fv, d, c⟩ := hot
  refine call_any_walk (iter_any hl.isList fun s₂ e2 st hne => ?_)
  subst e2
  have lt : a ≠ s.heap.objs.size := Nat.ne_of_lt (Heap.lt_size there)
  refine ⟨_, _, _, _, _, _, _, rfl, walks_hot (A := X.A.in1) _ l a hne lt its.toArray, ⟨st.1, st.2, hh, oe, fv, Heap.get?_push_of_some _ there, d, c⟩, truth_bools hb, fun h' tk hk => ⟨.bl _, H, I.kept fun b o eo => hk b o (fun z => ?_) (Heap.get?_push_of_some _ eo), ?_, q⟩⟩
  · cases List.mem_singleton.mp z
    exact absurd (Heap.lt_size eo) (Nat.lt_irrefl _)
  · show Value.bool _ = Value.bool _
    rw [← L2.any_range, hb, List.size_toArray, List.length_map]
theorem jc_anyH (hot : L2H.Hot1 X.A (a, oe)) (hp : (a, oe) ∈ X.pn) : JC X G (.builtin "any") (ac1 fAny) := by
  refine ⟨_, cr_anyH hot hp, ac1_ok fun {x Ω Φ} h {P F H v Q} o r k => ?_⟩
  obtain ⟨ns, h⟩ := h
  obtain ⟨l, vs, ds, rfl, hs, da, rfl, q⟩ := rdL_of_S h o r
  rw [dqa_bools da] at hs
  exact ⟨l, ns, rfl, hs, k q o (Same.refl F) (.bl _)⟩
end
end Z
namespace Z
open PySem PySem.Spec PyProof.Rows L2
theorem mok2 {G G' : Gn} {K : Frag} (hg : ∀ a, G'.H0 a = none → G.H0 a = none) : MOk ⟨G', K⟩ (some fun a => G.H0 a = none) := fun _ h a e => by cases h; exact hg a e
theorem xok_of {X : Cx} {G : Gn} {E : XK} {Ξ : XA} (hX : ∀ {x : XI} {Ω : Om} {P' F H : Hp} {cls : Value} {d : Option Addr}, Ξ x Ω → Ok ⟨G, X.K⟩ P' F H Ω → RpX X.K F H cls d x → E cls d H) : XOk X G (WE fun cls d _ H => E cls d H) (fun _ => Ξ) := fun h o _ r => hX h o r
theorem xokF {X : Cx} {G : Gn} : XOk X G (WE fun _ _ _ _ => False) xno := fun h => h.elim
theorem is_ref {a : Addr} : ∀ u, RelV (.ref a) u → u = Value.ref a := fun _ h => h
theorem is_ty {t : String} : ∀ u, RelV (.ty t) u → u = Value.type t := fun _ h => h
end Z
namespace Z
open PySem PySem.Spec PyProof.Rows L2
/-! ### a list of the def's own, read as data: from here on it never changes -/
def fzF (Fr : Addr → Prop) (k : PhiE) (x : SV) (Ω : Om) : Prop := match x with
  | .r (.ref p) => ∃ ds f, At Ω p (.lst ds) f ∧ Fr p ∧ ∃ Ω2, Cut Ω p Ω2 ∧ k (.d (.list ds)) Ω2
  | _ => False
def aFrz (Fr : Addr → Prop) (a : AE) : AE := fun ρ Ω Φ => a ρ Ω (fzF Fr Φ)
theorem je_frz {X : Cx} {G : Gn} {e : Expr} {aa : AE} (ha : JE X G e aa) : JE X G e (aFrz (fun p => G.H0 p = none) aa) := by
  obtain ⟨t, p1, q1⟩ := ha
  refine ⟨t, p1, ⟨fun {ρ Ω Φ} h {P F H σ Q} o rp k => q1.go h o rp fun {v sv Ω1 F1 H1} q o1 s1 r1 => ?_⟩⟩
  unfold fzF at q
  split at q
  · obtain ⟨ds, f, t, fr, Ω2, c, q⟩ := q
    cases (show v = _ from r1)
    obtain ⟨nF, _⟩ := o1.at_ t
    obtain ⟨vs, h1, h2⟩ := o1.lst t
    obtain ⟨c1, c2⟩ := c.addr o1.nd
    obtain ⟨o2, s2⟩ := o1.frz (c := .lst ds) h1 fr nF (o1.pd _ t.mem) c1 c2
    exact k q o2 (s1.trans s2) (Dq.lst upd_same (dqa_same s2 _ _ h2))
  · exact q.elim
end Z
/-! Z9: a < b < c, xs * n, xs[::-1], in; range(a, b, c), reversed, enumerate, zip as what is walked. -/
namespace Z
open PySem PySem.Spec PyProof.Rows L2
section
variable {X : Cx} {G : Gn} {e a b c : Expr} {aa ab ac : AE} {pos : Pos} {m : Mode} {op op' : CmpOp} {ar ar' : AR}
/-! ### chains -/
def aChain (ar ar' : AR) (a b c : AE) : AE := fun ρ Ω Φ => a ρ Ω fun x Ω1 => b ρ Ω1 fun y Ω2 => ar x y Ω2 fun z Ω3 => match z with
  | .d (.bool t) => br t (c ρ Ω3 fun w Ω4 => ar' y w Ω4 Φ) (Φ (.d (.bool false)) Ω3)
  | _ => False
theorem chain_ok {E : En} {ta tb tc : TE} {r r' : R2} (h1 : SnE E ta aa) (h2 : SnE E tb ab) (h3 : SnE E tc ac) (h4 : SnR E r ar) (h5 : SnR E r' ar') : SnE E (tChain r r' ta tb tc) (aChain ar ar' aa ab ac) := by
  refine ⟨fun {ρ Ω Φ} h {P F H σ Q} o rp k => h1.go h o rp fun {v1 x Ω1 F1 H1} q1 o1 s1 r1 => h2.go q1 o1 (rpe_same s1 rp) fun {v2 y Ω2 F2 H2} q2 o2 s2 r2 => h4.go q2 o2 (r1.same s2) r2 fun {v3 z Ω3 F3 H3} q3 o3 s3 r3 => ?_⟩
  have z3 := (s1.trans s2).trans s3
  dsimp only at q3
  split at q3
  · rename_i t
    replace q3 := br_out q3
    refine ⟨t, dqb r3, br_ite ?_⟩
    cases t
    · exact k q3 o3 z3 (.bl _)
    · exact h3.go q3 o3 (rpe_same z3 rp) fun q4 o4 s4 r4 => h5.go q4 o4 (r2.same (s3.trans s4)) r4 fun q5 o5 s5 r5 => k q5 o5 ((z3.trans s4).trans s5) r5
  · exact q3.elim
theorem je_chain (ho : JOp X G (compareOp op) ar) (ho' : JOp X G (compareOp op') ar') (ha : JE X G a aa) (hb : JE X G b ab) (hc : JE X G c ac) (hm : lastMarks [op, op'] [b, c] = false := by with_unfolding_all rfl) :
    JE X G (.Compare a [op, op'] [b, c] pos) (aChain ar ar' aa ab ac) := by
  obtain ⟨r, p1, q1⟩ := ho
  obtain ⟨r', p2, q2⟩ := ho'
  obtain ⟨_, p3, q3⟩ := ha
  obtain ⟨_, p4, q4⟩ := hb
  obtain ⟨_, p5, q5⟩ := hc
  exact ⟨_, pe_chain p1 p2 p3 p4 p5 hm, chain_ok q3 q4 q5 q1 q2⟩
theorem jt_chain (ho : JOp X G (compareOp op) ar) (ho' : JOp X G (compareOp op') ar') (ha : JE X G a aa) (hb : JE X G b ab) (hc : JE X G c ac) (hm : lastMarks [op, op'] [b, c] = false := by with_unfolding_all rfl) :
    JT X G (.Compare a [op, op'] [b, c] pos) (aB (aChain ar ar' aa ab ac)) := by
  obtain ⟨r, p1, q1⟩ := ho
  obtain ⟨r', p2, q2⟩ := ho'
  obtain ⟨_, p3, q3⟩ := ha
  obtain ⟨_, p4, q4⟩ := hb
  obtain ⟨_, p5, q5⟩ := hc
  refine ⟨_, pt_chain p1 p2 p3 p4 p5 hm, ⟨fun {ρ Ω Φ} h {P F H σ Q} o rp k => (chain_ok q3 q4 q5 q1 q2).go h o rp fun {v z Ω1 F1 H1} q o1 s1 r1 => ?_⟩⟩
  dsimp only at q
  split at q
  · exact ⟨_, dqb r1, k q o1 s1⟩
  · exact q.elim
/-! ### xs * n -/
def repD {α : Type} (xs : List α) (k : Int) : List α := (List.replicate k.toNat xs).flatten
theorem dqa_rep {K : Frag} {F : Hp} {vs : List V} {ds : List PyData} (h : DqAll K F vs ds) : ∀ n : Nat, DqAll K F (List.replicate n vs).flatten (List.replicate n ds).flatten
  | 0 => .nil
  | n + 1 => by
    rw [List.replicate_succ, List.replicate_succ, List.flatten_cons, List.flatten_cons]
    exact dqa_app h (dqa_rep h n)
def arMulA (m : Mode) : AR := fun x y Ω Φ => match x, y with
  | .d (.tuple ds), .d (.int k) => ds ≠ [] ∧ 2 ≤ k ∧ k ≤ 1000 ∧ ds.length ≤ 1000 ∧ Φ (.d (.tuple (repD ds k))) Ω
  | x, .d (.int k) => rdL x Ω fun ds => -(2 ^ 63) ≤ k ∧ k < 2 ^ 63 ∧ ds.length * k.toNat ≤ sizeLine ∧ newL m (repD ds k) Ω Φ
  | _, _ => False
theorem jo_mul (hm : MOk (enX X G) m) : JOp X G (binaryOp .Mult) (arMulA m) := by
  refine ⟨_, OpR.or op_repT op_rep, ⟨fun {x y Ω Φ} h {P F H vx vy Q} o r1 r2 k => ?_⟩⟩
  unfold arMulA at h
  split at h
  · obtain ⟨p, vs, rfl, hF, da⟩ := dqt r1
    cases dqi r2
    obtain ⟨h1, h2, h3, h4, h5⟩ := h
    refine Or.inl ⟨p, _, vs, rfl, rfl, sqt_same o.ex hF, fun z => h1 (by subst z; cases da; rfl), h2, h3, by rw [dqa_len da]; exact h4, fun q hq => ?_⟩
    obtain ⟨o1, s1⟩ := o.newF (o := .tup (List.replicate _ vs).flatten) hq
    exact k h5 o1 s1 (Dq.tup (Or.inl (Or.inl upd_same)) (dqa_same s1 _ _ (dqa_rep da _)))
  · rename_i k' _
    obtain ⟨p, vs, ds, rfl, hs, da, h1, h2, h3, h4⟩ := rdL_ok h o r1
    cases dqi r2
    refine Or.inr ⟨p, _, vs, rfl, rfl, hs, h1, h2, by rw [dqa_len da]; exact h3, fun q hq => newL_ok hm o (dqa_rep da _) h4 k hq⟩
  · exact h.elim
/-! ### xs[::-1] of a list -/
def aRevL (m : Mode) (a : AE) : AE := fun ρ Ω Φ => a ρ Ω fun x Ω' => rdS x Ω' fun ds => (match x with | .d (.tuple _) => False | _ => True) ∧ newL m ds.reverse Ω' Φ
theorem je_revL {k : Nat} {p1 p2 p3 : Pos} (hm : MOk (enX X G) m) (ha : JE X G e aa) : JE X G (.Subscript e (.Slice none none (some (.UnaryOp .USub (.Constant (.int 1) k p1) p2)) p3) pos) (aRevL m aa) := by
  obtain ⟨t, h1, h2⟩ := ha
  refine ⟨_, pe_revL h1, ⟨fun {ρ Ω Φ} h {P F H σ Q} o rp k => h2.go h o rp fun {v sv Ω1 F1 H1} q o1 s1 r1 => ?_⟩⟩
  obtain ⟨p, vs, ds, rfl, hs, da, q⟩ := rdL_of_S q o1 r1
  exact ⟨p, vs, rfl, hs, fun z hz => newL_ok hm o1 (dqa_rev da) q (fun q2 o2 s2 r2 => k q2 o2 (s1.trans s2) r2) hz⟩
end
/-! ### in -/
def flD : PyData → Bool
  | .none | .bool _ | .int _ | .str _ => true
  | _ => false
def eqD : PyData → PyData → Bool
  | .none, .none => true
  | .bool a, .bool b => a == b
  | .bool a, .int b => (if a then 1 else 0) == b
  | .int a, .bool b => a == (if b then 1 else 0)
  | .int a, .int b => a == b
  | .str a, .str b => a == b
  | _, _ => false
theorem fl_ok {K : Frag} {F : Hp} {v : V} {d : PyData} (h : Dq K F v d) (f : flD d = true) : flatV v = true := by
  cases h <;> first | rfl | cases f
theorem eq_ok {K : Frag} {F : Hp} {v w : V} {d e : PyData} (h : Dq K F v d) (h' : Dq K F w e) (f : flD d = true) (f' : flD e = true) : eqV v w = eqD d e := by
  cases h <;> cases h' <;> first | rfl | cases f | cases f'
theorem fls_ok {K : Frag} {F : Hp} : ∀ {vs : List V} {ds : List PyData}, DqAll K F vs ds → ds.all flD = true → vs.all flatV = true
  | _, _, .nil, _ => rfl
  | _, _, .cons r t, h => by
    rw [List.all_cons, Bool.and_eq_true] at h ⊢
    exact ⟨fl_ok r h.1, fls_ok t h.2⟩
theorem in_ok {K : Frag} {F : Hp} {v : V} {d : PyData} (r : Dq K F v d) (f : flD d = true) : ∀ {vs : List V} {ds : List PyData}, DqAll K F vs ds → ds.all flD = true → inV v vs = ds.any fun e => eqD e d
  | _, _, .nil, _ => rfl
  | _, _, .cons q t, h => by
    rw [List.all_cons, Bool.and_eq_true] at h
    show (eqV _ v || inV v _) = (eqD _ d || _)
    rw [eq_ok q r h.1 f, in_ok r f t h.2]
section
variable {X : Cx} {G : Gn}
def arInF (neg : Bool) : AR := fun x y Ω Φ => match x with
  | .d d => rdS y Ω fun ds => flD d = true ∧ ds.all flD = true ∧ Φ (.d (.bool (if neg then !(ds.any fun e => eqD e d) else ds.any fun e => eqD e d))) Ω
  | _ => False
abbrev arIn : AR := arInF false
abbrev arNotIn : AR := arInF true
theorem in_sn {K : Frag} {neg : Bool} {E : En} (hK : E.K = K) : SnR E (rIn K neg) (arInF neg) := by
  subst hK
  refine ⟨fun {x y Ω Φ} h {P F H vx vy Q} o r1 r2 k => ?_⟩
  unfold arInF at h
  split at h
  · obtain ⟨p, vs, ds, rfl, hs, da, f1, f2, h⟩ := rdS_ok h o r2
    refine ⟨p, vs, rfl, hs, fl_ok r1 f1, fls_ok da f2, ?_⟩
    rw [in_ok r1 f1 da f2]
    exact k h o (Same.refl F) (.bl _)
  · exact h.elim
theorem jo_in : JOp X G (compareOp .In) arIn := ⟨_, op_in_seq, in_sn rfl⟩
theorem jo_notin : JOp X G (compareOp .NotIn) arNotIn := ⟨_, op_notIn_seq, in_sn rfl⟩
end
/-! ### what is walked -/
section
variable {X : Cx} {G : Gn} {e e2 a b c tg : Expr} {aa ab : AE} {ta : AA} {pos : Pos}
/-- range(i, j, -1) -/
def rgB (lo : Int) (n : Nat) : List SV := (List.range n).map fun i => SV.d (.int (lo + (i : Nat) * -1))
theorem rgB_len {lo : Int} {n : Nat} : (rgB lo n).length = n := by unfold rgB; rw [List.length_map, List.length_range]
theorem rgB_get {lo : Int} {n i : Nat} {x : SV} (h : (rgB lo n)[i]? = some x) : x = .d (.int (lo + (i : Nat) * -1)) ∧ i < n := by
  have lt := (List.getElem?_eq_some_iff.mp h).1
  rw [rgB_len] at lt
  unfold rgB at h
  rw [List.getElem?_map, List.getElem?_range lt] at h
  cases h
  exact ⟨rfl, lt⟩
def aRng3 (t : AA) : AI := fun ρ Ω Φ => t ρ Ω fun xs Ω' => match xs with
  | [.d (.int i), .d (.int j), .d (.int c)] => c = -1 ∧ bd62 i ∧ bd62 j ∧ Φ (rgB i (i - j).toNat) kpT Ω'
  | _ => False
theorem itc_ok {E : En} {F0 : Hp} {lo : Int} {n : Nat} : ItOk E F0 (Itc lo (-1) n) (rgB lo n) kpT := by
  refine ⟨fun s o k hi => by rw [rgB_len] at hi; exact hi, fun {i P F H Ω x H' y} s o k yy e => ?_, fun s o k hi => by rw [rgB_len] at hi; exact hi⟩
  obtain ⟨rfl, rfl⟩ := yy
  obtain ⟨rfl, _⟩ := rgB_get e
  exact ⟨F, o, Same.refl F, .int _⟩
theorem ji_range3 {p : Pos} (hg : Gl X "range") (hm : X.mg "range" = none) (ha : JA X G [a, b, c] ta) (hs : starEach [a, b, c] X.env = (false, eval a X.env) :: starEach [b, c] X.env := by rfl) (hpl : (backTo pos (starEach [b, c] X.env)).any (·.1) = false := by rfl) :
    JI X G tg (.Call (.Name "range" p) [a, b, c] [] pos) (aRng3 ta) := by
  obtain ⟨t, h1, h2⟩ := ha
  refine ⟨_, pi_range3 hg hm h1 hs hpl, ⟨fun {ρ Ω Φ} h {P F H σ R} o rp k => h2.go h o rp fun {vs svs Ω1 F1 H1} q o1 s1 r1 => ?_⟩⟩
  split at q
  · obtain ⟨rfl, ⟨b1, b2⟩, ⟨b3, b4⟩, q⟩ := q
    cases r1 with
    | cons r r1 =>
      cases r1 with
      | cons r' r1 =>
        cases r1 with
        | cons r'' r1 =>
          cases r1
          cases dqi r
          cases dqi r'
          cases dqi r''
          exact ⟨_, _, _, _, rfl, RgC.neg b1 b2 b3 b4, k q o1 s1 itc_ok⟩
  · exact q.elim
/-- reversed(xs) of data -/
def aRevI (a : AE) : AI := fun ρ Ω Φ => a ρ Ω fun x Ω' => match x with
  | .d (.list ds) => Φ (ds.reverse.map SV.d) kpT Ω'
  | .d (.tuple ds) => Φ (ds.reverse.map SV.d) kpT Ω'
  | _ => False
theorem rev_at {α : Type} {xs : List α} {i : Nat} {y : α} (h : xs.reverse[i]? = some y) : xs[xs.length - 1 - i]? = some y ∧ i < xs.length := by
  have lt := (List.getElem?_eq_some_iff.mp h).1
  rw [List.length_reverse] at lt
  rw [List.getElem?_reverse lt] at h
  exact ⟨h, lt⟩
theorem ji_reversed {p : Pos} (hg : Gl X "reversed") (hm : X.mg "reversed" = none) (ha : JE X G e aa) (hs : starEach [e] X.env = (false, eval e X.env) :: starEach [] X.env := by rfl) : JI X G tg (.Call (.Name "reversed" p) [e] [] pos) (aRevI aa) := by
  obtain ⟨t, h1, h2⟩ := ha
  refine ⟨_, RT.pi_revA hg hm h1 hs, ⟨fun {ρ Ω Φ} h {P F H σ R} o rp k => h2.go h o rp fun {v sv Ω1 F1 H1} q o1 s1 r1 => ?_⟩⟩
  have fin : ∀ {vs : List V} {ds : List PyData}, DqAll X.K F1 vs ds → ∀ {i : Nat} {y : SV} {F' : Hp}, Same F1 F' → (ds.reverse.map SV.d)[i]? = some y → ∃ v, vs[vs.length - 1 - i]? = some v ∧ Rp X.K F' v y := by
    intro vs ds da i y F' s e
    rw [List.getElem?_map] at e
    cases ed : ds.reverse[i]? with
    | none => rw [ed] at e; cases e
    | some d =>
      rw [ed] at e
      cases e
      obtain ⟨g, _⟩ := rev_at ed
      obtain ⟨u, g1, g2⟩ := dqa_get (dqa_same s _ _ da) g
      rw [← dqa_len da] at g1
      exact ⟨u, g1, g2⟩
  dsimp only at q
  split at q
  · obtain ⟨p, vs, rfl, hF, da⟩ := dql r1
    refine ⟨p, vs, rfl, Or.inl ⟨SqL.of (o1.ex _ _ hF), k q o1 s1 ⟨fun {i P F H Ω} s o _ hi => ?_, fun {i P F H Ω x H' y} s o _ yy e => ?_, fun s o _ hi => ?_⟩⟩⟩
    · rw [List.length_map, List.length_reverse, ← dqa_len da] at hi
      exact ⟨hi, vs, _, SqL.of (o.ex _ _ (s _ _ hF)), List.getElem?_eq_getElem (by omega)⟩
    · obtain ⟨rfl, yy⟩ := yy
      obtain ⟨u, g1, g2⟩ := fin da s e
      have g3 := yy vs (SqL.of (o.ex _ _ (s _ _ hF)))
      rw [g1] at g3
      cases g3
      exact ⟨_, o, Same.refl _, g2⟩
    · rw [List.length_map, List.length_reverse, ← dqa_len da] at hi
      exact hi
  · obtain ⟨p, vs, rfl, hF, da⟩ := dqt r1
    refine ⟨p, vs, rfl, Or.inr ⟨sqt_same o1.ex hF, k q o1 s1 ⟨fun {i P F H Ω} s o _ hi => ?_, fun {i P F H Ω x H' y} s o _ yy e => ?_, fun s o _ hi => ?_⟩⟩⟩
    · rw [List.length_map, List.length_reverse, ← dqa_len da] at hi
      exact ⟨hi, vs, _, sqt_same o.ex (sqt_same s hF), List.getElem?_eq_getElem (by omega)⟩
    · obtain ⟨rfl, yy⟩ := yy
      obtain ⟨u, g1, g2⟩ := fin da s e
      have g3 := yy vs (sqt_same o.ex (sqt_same s hF))
      rw [g1] at g3
      cases g3
      exact ⟨_, o, Same.refl _, g2⟩
    · rw [List.length_map, List.length_reverse, ← dqa_len da] at hi
      exact hi
  · exact q.elim
/-- enumerate(xs) -/
def enD (ds : List PyData) : List SV := (List.range ds.length).map fun i => SV.d (.tuple [.int (i : Nat), ds.getD i .none])
theorem enD_len {ds : List PyData} : (enD ds).length = ds.length := by unfold enD; rw [List.length_map, List.length_range]
theorem enD_get {ds : List PyData} {i : Nat} {x : SV} (h : (enD ds)[i]? = some x) : ∃ d, ds[i]? = some d ∧ x = .d (.tuple [.int (i : Nat), d]) := by
  have lt := (List.getElem?_eq_some_iff.mp h).1
  rw [enD_len] at lt
  unfold enD at h
  rw [List.getElem?_map, List.getElem?_range lt] at h
  cases h
  exact ⟨ds[i], List.getElem?_eq_getElem lt, by show SV.d (.tuple [.int (i : Nat), ds.getD i .none]) = _; rw [List.getD_eq_getElem?_getD, List.getElem?_eq_getElem lt]; rfl⟩
theorem new_tup {E : En} {P F H : Hp} {Ω : Om} {T : Addr} {vs : List V} {ds : List PyData} (o : Ok E P F H Ω) (n : H T = none) (da : DqAll E.K F vs ds) : ∃ F', Ok E P F' (upd H T (.tup vs)) Ω ∧ Same F F' ∧ Rp E.K F' (.ref T) (.d (.tuple ds)) := by
  obtain ⟨o1, s1⟩ := o.newF (o := .tup vs) n
  exact ⟨_, o1, s1, Dq.tup (Or.inl (Or.inl upd_same)) (dqa_same s1 _ _ da)⟩
theorem ite_ok {E : En} {F0 : Hp} {p : Addr} {ds : List PyData} {Kp : Om → Prop}
    (h : ∀ {P F H : Hp} {Ω : Om}, Same F0 F → Ok E P F H Ω → Kp Ω → ∃ vs, SqL E.K H p vs ∧ DqAll E.K F vs ds) : ItOk E F0 (Ite E.K p) (enD ds) Kp := by
  refine ⟨fun s o k hi => ?_, fun s o k yy e => ?_, fun s o k hi => ?_⟩
  · obtain ⟨vs, h1, h2⟩ := h s o k
    rw [enD_len, ← dqa_len h2] at hi
    exact ⟨vs, _, h1, List.getElem?_eq_getElem hi⟩
  · obtain ⟨vs, h1, h2⟩ := h s o k
    obtain ⟨T, x, rfl, n, rfl, y2⟩ := yy
    obtain ⟨d, hd, rfl⟩ := enD_get e
    obtain ⟨u, g1, g2⟩ := dqa_get h2 hd
    have g3 := y2 vs h1
    rw [g1] at g3
    cases g3
    exact new_tup o n (.cons (.int _) (.cons g2 .nil))
  · obtain ⟨vs, h1, h2⟩ := h s o k
    rw [enD_len, ← dqa_len h2] at hi
    exact ⟨vs, h1, hi⟩
def aEnumerate (t : AA) : AI := fun ρ Ω Φ => t ρ Ω fun xs Ω' => match xs with
  | [.d (.list ds)] => Φ (enD ds) kpT Ω'
  | [.r (.ref p)] => ∃ ds f, At Ω' p (.lst ds) f ∧ Φ (enD ds) (kpAt p (.lst ds)) Ω'
  | _ => False
theorem ji_enumerate {p tpos : Pos} {elts : List Expr} {kk : Nat} (hg : Gl X "enumerate") (hm : X.mg "enumerate" = none) (ha : JA X G [e] ta) (hs : starEach [e] X.env = [(false, eval e X.env)] := by rfl) :
    JI X G (.Tuple elts kk tpos) (.Call (.Name "enumerate" p) [e] [] pos) (aEnumerate ta) := by
  obtain ⟨t, h1, h2⟩ := ha
  refine ⟨_, pi_enum hg hm h1 hs, ⟨fun {ρ Ω Φ} h {P F H σ R} o rp k => h2.go h o rp fun {vs svs Ω1 F1 H1} q o1 s1 r1 => ?_⟩⟩
  split at q
  · obtain ⟨v, rfl, r⟩ := pr1 r1
    obtain ⟨p, vs, rfl, hF, da⟩ := dql r
    exact ⟨p, vs, rfl, SqL.of (o1.ex _ _ hF), k q o1 s1 (ite_ok fun s o _ => ⟨vs, SqL.of (o.ex _ _ (s _ _ hF)), dqa_same s _ _ da⟩)⟩
  · obtain ⟨v, rfl, r⟩ := pr1 r1
    obtain ⟨ds, f, t, q⟩ := q
    cases (show v = _ from r)
    obtain ⟨vs, h3, h4⟩ := o1.lst t
    refine ⟨_, vs, rfl, SqL.of h3, k q o1 s1 (ite_ok fun s o kk => ?_)⟩
    obtain ⟨f', t'⟩ := kk
    obtain ⟨ws, h5, h6⟩ := o.lst t'
    exact ⟨ws, SqL.of h5, h6⟩
  · exact q.elim
/-- zip(xs, ys), both lists or both tuples -/
def zpD (ds es : List PyData) : List SV := (ds.zip es).map fun p => SV.d (.tuple [p.1, p.2])
theorem zpD_get {ds es : List PyData} {i : Nat} {x : SV} (h : (zpD ds es)[i]? = some x) : ∃ d e, ds[i]? = some d ∧ es[i]? = some e ∧ x = .d (.tuple [d, e]) := by
  unfold zpD at h
  rw [List.getElem?_map] at h
  cases z : (ds.zip es)[i]? with
  | none => rw [z] at h; cases h
  | some p =>
    rw [z] at h
    cases h
    have := List.getElem?_zip_eq_some.mp z
    exact ⟨p.1, p.2, this.1, this.2, rfl⟩
theorem zpD_len {ds es : List PyData} : (zpD ds es).length = min ds.length es.length := by unfold zpD; rw [List.length_map, List.length_zip]
def aZip (t : AA) : AI := fun ρ Ω Φ => t ρ Ω fun xs Ω' => match xs with
  | [.d (.list ds), .d (.list es)] => Φ (zpD ds es) kpT Ω'
  | [.d (.tuple ds), .d (.tuple es)] => Φ (zpD ds es) kpT Ω'
  | _ => False
theorem ji_zip {p tpos : Pos} {elts : List Expr} {kk : Nat} (hg : Gl X "zip") (hm : X.mg "zip" = none) (ha : JA X G [e, e2] ta) (hs : starEach [e, e2] X.env = (false, eval e X.env) :: starEach [e2] X.env := by rfl) (hpl : (backTo pos (starEach [e2] X.env)).any (·.1) = false := by rfl) :
    JI X G (.Tuple elts kk tpos) (.Call (.Name "zip" p) [e, e2] [] pos) (aZip ta) := by
  obtain ⟨t, h1, h2⟩ := ha
  refine ⟨_, RZ.pi_zipA hg hm h1 hs hpl, ⟨fun {ρ Ω Φ} h {P F H σ R} o rp k => h2.go h o rp fun {vs svs Ω1 F1 H1} q o1 s1 r1 => ?_⟩⟩
  split at q
  · obtain ⟨v, u, rfl, r, r'⟩ := pr2 r1
    obtain ⟨p, vs, rfl, hF, da⟩ := dql r
    obtain ⟨p', ws, rfl, hF', da'⟩ := dql r'
    refine ⟨p, p', vs, ws, rfl, Or.inl ⟨SqL.of (o1.ex _ _ hF), SqL.of (o1.ex _ _ hF'), k q o1 s1 ⟨fun {i P F H Ω} s o _ hi => ?_, fun {i P F H Ω x H' y} s o _ yy e => ?_, fun {i P F H Ω} s o _ hi => ?_⟩⟩⟩
    · rw [zpD_len, ← dqa_len da, ← dqa_len da'] at hi
      exact ⟨vs, ws, _, _, SqL.of (o.ex _ _ (s _ _ hF)), SqL.of (o.ex _ _ (s _ _ hF')), List.getElem?_eq_getElem (by omega), List.getElem?_eq_getElem (by omega)⟩
    · obtain ⟨T, x, y, rfl, n, rfl, y1, y2⟩ := yy
      obtain ⟨d, d', hd, hd', rfl⟩ := zpD_get e
      obtain ⟨u, g1, g2⟩ := dqa_get (dqa_same s _ _ da) hd
      obtain ⟨u', g1', g2'⟩ := dqa_get (dqa_same s _ _ da') hd'
      have g3 := y1 vs (SqL.of (o.ex _ _ (s _ _ hF)))
      have g3' := y2 ws (SqL.of (o.ex _ _ (s _ _ hF')))
      rw [g1] at g3
      rw [g1'] at g3'
      cases g3
      cases g3'
      exact new_tup o n (.cons g2 (.cons g2' .nil))
    · rw [zpD_len, ← dqa_len da, ← dqa_len da'] at hi
      exact ⟨vs, ws, SqL.of (o.ex _ _ (s _ _ hF)), SqL.of (o.ex _ _ (s _ _ hF')), by omega⟩
  · obtain ⟨v, u, rfl, r, r'⟩ := pr2 r1
    obtain ⟨p, vs, rfl, hF, da⟩ := dqt r
    obtain ⟨p', ws, rfl, hF', da'⟩ := dqt r'
    refine ⟨p, p', vs, ws, rfl, Or.inr ⟨sqt_same o1.ex hF, sqt_same o1.ex hF', k q o1 s1 ⟨fun {i P F H Ω} s o _ hi => ?_, fun {i P F H Ω x H' y} s o _ yy e => ?_, fun {i P F H Ω} s o _ hi => ?_⟩⟩⟩
    · rw [zpD_len, ← dqa_len da, ← dqa_len da'] at hi
      exact ⟨vs, ws, _, _, sqt_same o.ex (sqt_same s hF), sqt_same o.ex (sqt_same s hF'), List.getElem?_eq_getElem (by omega), List.getElem?_eq_getElem (by omega)⟩
    · obtain ⟨T, x, y, rfl, n, rfl, y1, y2⟩ := yy
      obtain ⟨d, d', hd, hd', rfl⟩ := zpD_get e
      obtain ⟨u, g1, g2⟩ := dqa_get (dqa_same s _ _ da) hd
      obtain ⟨u', g1', g2'⟩ := dqa_get (dqa_same s _ _ da') hd'
      have g3 := y1 vs (sqt_same o.ex (sqt_same s hF))
      have g3' := y2 ws (sqt_same o.ex (sqt_same s hF'))
      rw [g1] at g3
      rw [g1'] at g3'
      cases g3
      cases g3'
      exact new_tup o n (.cons g2 (.cons g2' .nil))
    · rw [zpD_len, ← dqa_len da, ← dqa_len da'] at hi
      exact ⟨vs, ws, sqt_same o.ex (sqt_same s hF), sqt_same o.ex (sqt_same s hF'), by omega⟩
  · exact q.elim
end
end Z
namespace Z
open PySem PySem.Spec PyProof.Rows L2
/-- f(e, ..), f a built-in that the module imported -/
theorem je_callGB {X : Cx} {G : Gn} {id : String} {ac : AC} {x : Str} {p pos : Pos} {e : Expr} {es : List Expr} {ta : AA} (hc : JC X G (.builtin id) ac) (hg : Gl X x) (hm : X.mg x = some (.builtin id)) (ha : JA X G (e :: es) ta) (hdb : (x == ("__debug__" : Str)) = false := by decide)
    (he : starEach (e :: es) X.env = (false, eval e X.env) :: starEach es X.env := by rfl) (hpl : (backTo pos (starEach es X.env)).any (·.1) = false := by rfl) : JE X G (.Call (.Name x p) (e :: es) [] pos) (aCB ac ta) := by
  obtain ⟨r, h1, h2⟩ := hc
  obtain ⟨t, h3, h4⟩ := ha
  refine ⟨tCB r t, ⟨fun pins s σ H Q I h => wpAny_Call_Name_kw (ld_glob I hg hm (PyProof.Rows.callWith_builtin1 (thn (h3.run pos pins s σ H _ I h) fun us s1 ⟨vs, H1, I1, r1, q1⟩ => h1 pins s1 σ H1 vs us Q I1 r1 q1) he hpl) hdb)⟩,
    ⟨fun {ρ Ω Φ} h {P F H σ Q} o rp k => h4.go h o rp fun q o1 s1 r1 => h2.go q o1 r1 fun q2 o2 s2 r2 => k q2 o2 (s1.trans s2) r2⟩⟩
end Z
namespace Z
open PySem PySem.Spec PyProof.Rows L2
/-- what a def that calls itself may lean on at depth n -/
def recC (c : Nat → Con) : Nat → Con
  | 0 => fun _ _ _ _ => False
  | n + 1 => c n
theorem fnG_no {P : Program} {w : World} {K : Frag} {mg : Str → Option Value} {base : Heap} {CX : CXT} {k : Nat} {f : Addr} {fd : FuncData} {ps : List Str} {c : Nat → Con} : FnG P w K mg base CX k f fd ps (spOf K (recC c 0)) :=
  ⟨fun _ _ _ _ ⟨_, _, _, _, _, _, _, _, h, _⟩ => h.elim, fun _ _ _ _ _ _ _ _ _ _ _ _ _ _ ⟨_, _, _, _, _, _, _, _, h, _⟩ => h.elim⟩
end Z
namespace Z
open PySem PySem.Spec PyProof.Rows L2
theorem js_setAt {X : Cx} {G : Gn} {e a b : Expr} {aa ab ac : AE} {pos spos : Pos} (h : ∀ {te ta tb : TE}, PE X e te → PE X a ta → PE X b tb → PS X (.Assign [.Subscript a b pos] e spos) (tAsg te (gSub ta tb rSetL))) (he : JE X G e aa) (ha : JE X G a ab) (hb : JE X G b ac) :
    JS X G (.Assign [.Subscript a b pos] e spos) (aSetIx aa ab ac) := js_setIx he ha hb (h := h)
end Z
/-! Zb: the bag of a law, as a pair of cells. -/
namespace Z
open PySem PySem.Spec PyProof.Rows L2
theorem At.app {Ω : Om} {a : Addr} {c : OC} {f : OC → Om} (t : At Ω a c f) : ∀ L : Om, At (L ++ Ω) a c (fun z => L ++ f z)
  | [] => t
  | p :: L => .there (At.app t L)
abbrev I (i : Int) : SV := .d (.int i)
abbrev T (ds : List PyData) : SV := .d (.tuple ds)
abbrev isD (is : List Int) : List PyData := is.map PyData.int
structure BagOk (n m : Int) (is : List Int) : Prop where
  n0 : 0 ≤ n
  m0 : 0 ≤ m
  m1 : m < 2147483647
  i0 : ∀ i ∈ is, 0 ≤ i
/-- the bag x: [cells, n, m] and its cells, behind L and before R -/
inductive Bag (x : SV) (L R : Om) : Om → Prop where
  | mk {b c : Addr} {n m : Int} {is : List Int} : x = .r (.ref b) → BagOk n m is → Bag x L R (L ++ (b, .lx [.r (.ref c), I n, I m]) :: (c, .lst (isD is)) :: R)
theorem Bag.push {x : SV} {L R Ω : Om} (h : Bag x L R Ω) (p : Addr × OC) : Bag x (p :: L) R (p :: Ω) := by
  obtain ⟨h1, h2⟩ := h
  exact .mk (L := p :: L) h1 h2
theorem Bag.pop {x : SV} {p : Addr × OC} {L R Ω : Om} (h : Bag x (p :: L) R Ω) : ∃ Ω2, Ω = p :: Ω2 ∧ Bag x L R Ω2 := by
  obtain ⟨h1, h2⟩ := h
  exact ⟨_, rfl, .mk h1 h2⟩
/-- _law_draw: anything below -/
inductive DrawC : Con where
  | mk {x : SV} {below : Int} {L R Ω : Om} {Φ : PhiE} {Ξ : XA} : Bag x L R Ω → 0 < below → below.natAbs.log2 < 9000 → (∀ r Ω', 0 ≤ r → r < below → Bag x L R Ω' → Φ (I r) Ω') → DrawC [x, I below] Ω Φ Ξ
theorem DrawC.ari : Ari DrawC 2 := by rintro _ _ _ _ ⟨_, _, _, _⟩; rfl
/-- _law_pick: any item of a list of data -/
inductive PickC : Con where
  | mk {x : SV} {ds : List PyData} {L R Ω : Om} {Φ : PhiE} {Ξ : XA} : Bag x L R Ω → ds ≠ [] → ds.length < 2 ^ 60 → (∀ d ∈ ds, ∀ Ω', Bag x L R Ω' → Φ (.d d) Ω') → PickC [x, .d (.list ds)] Ω Φ Ξ
theorem PickC.ari : Ari PickC 2 := by rintro _ _ _ _ ⟨_, _, _, _⟩; rfl
/-- _law_own_bag -/
inductive OwnC (k : Nat) : Con where
  | mk {ns : List Int} {Φ : PhiE} {Ξ : XA} : ScrOk k ns → (∀ x Ω, Bag x [] [] Ω → Φ x Ω) → OwnC k [.l (isD ns)] [] Φ Ξ
theorem OwnC.ari {k : Nat} : Ari (OwnC k) 1 := by rintro _ _ _ _ ⟨_, _⟩; rfl
/-- _law_great: anything below -/
inductive GreatC : Con where
  | mk {x : SV} {below : Int} {L R Ω : Om} {Φ : PhiE} {Ξ : XA} : Bag x L R Ω → 0 < below → below ≤ 10 ^ 60 → (∀ r Ω', 0 ≤ r → r < below → Bag x L R Ω' → Φ (I r) Ω') → GreatC [x, I below] Ω Φ Ξ
theorem GreatC.ari : Ari GreatC 2 := by rintro _ _ _ _ ⟨_, _, _, _⟩; rfl
end Z
/-! Zd: facts on data of ints: what can be told as text and compared. -/
namespace Z
open PySem PySem.Spec PyProof.Rows L2
theorem depthAll_isD : ∀ is : List Int, PyData.depthAll (isD is) ≤ 1
  | [] => by simp [isD, PyData.depthAll]
  | i :: r => by
    have h := depthAll_isD r
    simp only [isD, List.map_cons, PyData.depthAll, PyData.depth] at h ⊢
    omega
theorem depth_isD (is : List Int) : PyData.depth (.tuple (isD is)) ≤ 2 ∧ PyData.depth (.list (isD is)) ≤ 2 := by
  have h := depthAll_isD is
  simp only [PyData.depth]
  omega
theorem shaped_isD (is : List Int) : SeqAt.shaped (.tuple (isD is)) = true ∧ SeqAt.shaped (.list (isD is)) = true := by
  have h := depth_isD is
  have c := canLayAll_ints is
  unfold SeqAt.shaped
  simp only [PyData.canLay0, Bool.and_eq_true, decide_eq_true_eq]
  exact ⟨⟨c, by omega⟩, ⟨c, by omega⟩⟩
theorem showAll_isD : ∀ {is : List Int}, (∀ i ∈ is, i.natAbs.log2 < 1920) → PyData.showableAll (isD is) = true
  | [], _ => rfl
  | i :: r, h => by
    simp only [isD, List.map_cons, PyData.showableAll, PyData.showable, Bool.and_eq_true, decide_eq_true_eq]
    exact ⟨h i List.mem_cons_self, showAll_isD fun j hj => h j (List.mem_cons_of_mem _ hj)⟩
theorem noDict_isD : ∀ is : List Int, PyData.hasDictAll (isD is) = false
  | [] => rfl
  | i :: r => by
    simp only [isD, List.map_cons, PyData.hasDictAll, PyData.hasDict, Bool.false_or]
    exact noDict_isD r
theorem join_le {B : Nat} : ∀ {ts : List Str}, (∀ t ∈ ts, t.length ≤ B) → (Str.join ", " ts).length ≤ ts.length * (B + 2)
  | [], _ => Nat.zero_le _
  | [x], h => by
    have h1 := h x List.mem_cons_self
    show x.length ≤ 1 * (B + 2)
    omega
  | x :: y :: r, h => by
    have h1 := h x List.mem_cons_self
    have h2 := join_le (ts := y :: r) fun t ht => h t (List.mem_cons_of_mem _ ht)
    show (x ++ ", " ++ Str.join ", " (y :: r)).length ≤ _
    rw [strLen_append, strLen_append]
    have e : (Str.ofString ", ").length = 2 := by decide +kernel
    rw [e]
    simp only [List.length_cons] at h2 ⊢
    have e3 : (r.length + 1 + 1) * (B + 2) = (r.length + 1) * (B + 2) + (B + 2) := Nat.succ_mul _ _
    omega
theorem shown_isD : ∀ {is : List Int}, (∀ i ∈ is, i.natAbs.log2 < 1920) → (PyData.shownAll (isD is)).length = is.length ∧ ∀ t ∈ PyData.shownAll (isD is), t.length ≤ 1921
  | [], _ => ⟨rfl, fun _ h => by cases h⟩
  | i :: r, h => by
    obtain ⟨h1, h2⟩ := shown_isD (is := r) fun j hj => h j (List.mem_cons_of_mem _ hj)
    refine ⟨by simp only [isD, List.map_cons, PyData.shownAll, List.length_cons]; exact congrArg (· + 1) h1, fun t ht => ?_⟩
    simp only [isD, List.map_cons, PyData.shownAll, List.mem_cons] at ht
    rcases ht with rfl | ht
    · simp only [PyData.shown]; exact int_text_len_1921 (h i List.mem_cons_self)
    · exact h2 t ht
/-- what a law holds beside what is due -/
structure SameOk (d : PyData) : Prop where
  kind : (∃ i, d = .int i) ∨ (∃ ds, d = .tuple ds)
  sh : d.showable = true
  nd : d.hasDict = false
  dp : d.depth ≤ 60
  ln : d.shown.length ≤ sizeLine
  fm : SeqAt.shaped d = true
theorem SameOk.eq {d : PyData} (h : SameOk d) : PyData.eqv d d = true := SeqAt.eqv_refl d (SeqAt.canLay_of_shaped h.fm)
theorem log2_lt {n k : Nat} (h : n < 2 ^ k) (hk : 0 < k) : n.log2 < k := by
  rcases Nat.eq_zero_or_pos n with rfl | hn
  · simpa using hk
  · exact (Nat.log2_lt (by omega)).mpr h
theorem sameInt {i : Int} (h : i.natAbs < 2 ^ 1900) : SameOk (.int i) := by
  have h2 : i.natAbs.log2 < 1900 := log2_lt h (by decide)
  exact ⟨.inl ⟨_, rfl⟩, by simp only [PyData.showable, decide_eq_true_eq]; omega, rfl, by simp [PyData.depth], by
    have := int_text_len_1921 (i := i) (by omega)
    simp only [PyData.shown]
    have e : sizeLine = 16777216 := by decide
    omega, by unfold SeqAt.shaped; simp [PyData.canLay0, PyData.depth]⟩
theorem sameTup {is : List Int} (h : ∀ i ∈ is, i.natAbs < 2 ^ 1900) (hl : is.length ≤ 8000) : SameOk (.tuple (isD is)) := by
  have h2 : ∀ i ∈ is, i.natAbs.log2 < 1920 := fun i hi => by
    have := log2_lt (h i hi) (by decide)
    omega
  obtain ⟨a, b⟩ := shown_isD h2
  exact ⟨.inr ⟨_, rfl⟩, by simp only [PyData.showable]; exact showAll_isD h2, by simp only [PyData.hasDict]; exact noDict_isD is, by have := (depth_isD is).1; omega, by
    have e : sizeLine = 16777216 := by decide
    have j := join_le b
    simp only [PyData.shown, tupleText]
    rw [strLen_append, strLen_append]
    have e1 : (Str.ofString "(").length = 1 := by decide +kernel
    have e2 : (Str.ofString (if (PyData.shownAll (isD is)).length == 1 then ",)" else ")" : String)).length ≤ 2 := by split <;> decide +kernel
    rw [e1]
    rw [a] at j
    have : is.length * (1921 + 2) ≤ 8000 * (1921 + 2) := Nat.mul_le_mul_right _ hl
    omega, (shaped_isD is).1⟩
theorem eqvAll_isD : ∀ is js : List Int, PyData.eqvAll (isD is) (isD js) = decide (is = js)
  | [], [] => by simp [isD, PyData.eqvAll]
  | [], _ :: _ => by simp [isD, PyData.eqvAll]
  | _ :: _, [] => by simp [isD, PyData.eqvAll]
  | i :: r, j :: t => by
    have h := eqvAll_isD r t
    simp only [isD] at h
    simp only [isD, List.map_cons, PyData.eqvAll, PyData.eqv, h]
    by_cases e : i = j <;> by_cases e2 : r = t <;> simp [e, e2]
theorem eqv_nil (is : List Int) : PyData.eqv (.list (isD is)) (.list []) = decide (is = []) := by
  rw [PyData.eqv]
  exact eqvAll_isD is []
theorem shaped_nil : SeqAt.shaped (.list []) = true := (shaped_isD []).2
/-- _law_same: what is held beside itself -/
inductive SameC : Con where
  | mk {d : PyData} {Ω : Om} {Φ : PhiE} {Ξ : XA} : SameOk d → Φ (.d (.bool true)) Ω → SameC [.d d, .d d] Ω Φ Ξ
theorem SameC.ari : Ari SameC 2 := by rintro _ _ _ _ ⟨_, _⟩; rfl
/-! ### items -/
theorem erase_isD : ∀ (is : List Int) (k : Nat), (isD is).eraseIdx k = isD (is.eraseIdx k)
  | [], _ => rfl
  | _ :: _, 0 => rfl
  | i :: r, k + 1 => congrArg (PyData.int i :: ·) (erase_isD r k)
theorem app_isD (is js : List Int) : isD is ++ isD js = isD (is ++ js) := (List.map_append).symm
theorem dataOf_map : ∀ ds : List PyData, dataOf (ds.map SV.d) = some ds
  | [] => rfl
  | d :: r => by
    show (match dataOf (r.map SV.d) with | some ds => some (d :: ds) | none => none) = _
    rw [dataOf_map r]
theorem newX_d {m : Mode} {ds : List PyData} {Ω : Om} {Φ : PhiE} (h : newL m ds Ω Φ) : newX m (ds.map SV.d) Ω Φ := by
  cases m with
  | none =>
    show (match dataOf (ds.map SV.d) with | some ds => Φ (.d (.list ds)) Ω | none => False)
    rw [dataOf_map]
    exact h
  | some Fr =>
    intro a fa
    have e : mkL (ds.map SV.d) = .lst ds := by unfold mkL; rw [dataOf_map]
    rw [e]
    exact h a fa
theorem cutD_isD (is : List Int) (lo hi : Option Int) : cutD (isD is) lo hi = isD (cutD is lo hi) := by
  unfold cutD
  rw [isD, List.length_map, isD, List.map_take, List.map_drop]
theorem cutD_len {α : Type} (xs : List α) (lo hi : Option Int) : (cutD xs lo hi).length ≤ xs.length := by
  unfold cutD
  rw [List.length_take, List.length_drop]
  omega
theorem get_mapD {ds : List PyData} {i : Nat} {x : SV} (h : (ds.map SV.d)[i]? = some x) : ∃ d, ds[i]? = some d ∧ x = .d d := by
  rw [List.getElem?_map] at h
  cases e : ds[i]? with
  | none => rw [e] at h; cases h
  | some d => rw [e] at h; cases h; exact ⟨d, rfl, rfl⟩
theorem get_isD {is : List Int} {i : Nat} {x : SV} (h : ((isD is).map SV.d)[i]? = some x) : ∃ z, is[i]? = some z ∧ x = I z := by
  obtain ⟨d, h1, rfl⟩ := get_mapD h
  rw [isD, List.getElem?_map] at h1
  cases e : is[i]? with
  | none => rw [e] at h1; cases h1
  | some z => rw [e] at h1; cases h1; exact ⟨z, rfl, rfl⟩
theorem nat_bd {i : Int} {k : Nat} (h1 : -(2 ^ k) < i) (h2 : i < 2 ^ k) : i.natAbs < 2 ^ k := by
  have e : ((2 ^ k : Nat) : Int) = 2 ^ k := by simp
  omega
theorem cmul {i j : Int} (h1 : -(2 ^ 240) < i) (h2 : i < 2 ^ 240) (h3 : -(2 ^ 240) < j) (h4 : j < 2 ^ 240) : CMulX i j := mulx_ok (nat_bd h1 h2) (nat_bd h3 h4) (by decide)
theorem cdiv {i j : Int} (h1 : 0 < j) (h2 : j < 2 ^ 240) : CDivW i j := ⟨h1, by
  have := log2_lt (nat_bd (k := 240) (by omega) h2) (by decide)
  omega⟩
theorem bel {b : Int} (h0 : 0 < b) (h1 : b < 2 ^ 240) : b.natAbs.log2 < 9000 := (cdiv (i := 0) h0 h1).2
theorem atI_i {α : Type} {xs : List α} {i : Int} {a : α} (h0 : 0 ≤ i) (h : xs[i.toNat]? = some a) : atI xs i = some a := by
  have := atI_nat h
  rwa [Int.toNat_of_nonneg h0] at this
theorem atI_end {α : Type} {xs : List α} {a : α} (h : xs.getLast? = some a) : atI xs (-1) = some a := by
  obtain ⟨ys, rfl⟩ := List.getLast?_eq_some_iff.mp h
  exact atI_last ys a
end Z
/-! Zx: joins (a wish of one's own between two parts), tests that are settled, cuts of lists. -/
namespace Z
open PySem PySem.Spec PyProof.Rows L2
theorem br_d1 {p : Prop} [Decidable p] {A B : Prop} (h : p) (a : A) : br (decide p) A B := ⟨fun _ => a, fun e => absurd h (of_decide_eq_false e)⟩
theorem br_d0 {p : Prop} [Decidable p] {A B : Prop} (h : ¬p) (b : B) : br (decide p) A B := ⟨fun e => absurd (of_decide_eq_true e) h, fun _ => b⟩
theorem cut_to {α : Type} {xs : List α} {a : Int} (h0 : 0 ≤ a) : Z.cutD xs none (some a) = xs.take a.toNat := by
  unfold Z.cutD
  rw [HT.sIx_none, show (some a : Option Int) = some ((a.toNat : Nat) : Int) by rw [Int.toNat_of_nonneg h0], HT.sIx_nat, Nat.sub_zero, List.drop_zero]
  rcases Nat.le_total a.toNat xs.length with z | z
  · rw [Nat.min_eq_left z]
  · rw [Nat.min_eq_right z, List.take_of_length_le (Nat.le_refl _), List.take_of_length_le z]
theorem cut_from {α : Type} {xs : List α} {a : Int} (h0 : 0 ≤ a) : Z.cutD xs (some a) none = xs.drop a.toNat := by
  unfold Z.cutD
  rw [HT.sIx_none, show (some a : Option Int) = some ((a.toNat : Nat) : Int) by rw [Int.toNat_of_nonneg h0], HT.sIx_nat]
  rcases Nat.le_total a.toNat xs.length with z | z
  · rw [Nat.min_eq_left z, List.take_of_length_le (by rw [List.length_drop]; omega)]
  · rw [Nat.min_eq_right z, Nat.sub_self, List.take_zero, List.drop_of_length_le z]
theorem cut_to_isD {is : List Int} {a : Int} (h0 : 0 ≤ a) : Z.cutD (isD is) none (some a) = isD (is.take a.toNat) := by rw [cutD_isD, cut_to h0]
theorem cut_from_isD {is : List Int} {a : Int} (h0 : 0 ≤ a) : Z.cutD (isD is) (some a) none = isD (is.drop a.toNat) := by rw [cutD_isD, cut_from h0]
theorem len_isD (is : List Int) : (isD is).length = is.length := List.length_map ..
theorem get_isD' {is : List Int} {i : Nat} {x : PyData} (h : (isD is)[i]? = some x) : ∃ z, is[i]? = some z ∧ x = .int z := by
  rw [isD, List.getElem?_map] at h
  cases e : is[i]? with
  | none => rw [e] at h; cases h
  | some z => rw [e] at h; cases h; exact ⟨z, rfl, rfl⟩
theorem at_isD {is : List Int} {i : Int} {z : Int} (h0 : 0 ≤ i) (h : is[i.toNat]? = some z) : atI (isD is) i = some (.int z) := atI_i h0 (by rw [isD, List.getElem?_map, h]; rfl)
theorem last_isD {is : List Int} {z : Int} (h : is.getLast? = some z) : atI (isD is) (-1) = some (.int z) := atI_end (by rw [isD, List.getLast?_map, h]; rfl)
/-! ### joins -/
def aSeqE (s t : AS) : AS := fun D ρ Ω => ∃ M : Rho → Om → Prop, s { D with nx := M } ρ Ω ∧ ∀ ρ' Ω', M ρ' Ω' → t D ρ' Ω'
def aJoin (a : AE) : AE := fun ρ Ω Φ => ∃ M : PhiE, a ρ Ω M ∧ ∀ y Ω', M y Ω' → Φ y Ω'
def aJoinT (a : AT) : AT := fun ρ Ω Φ => ∃ M : Bool → Om → Prop, a ρ Ω M ∧ ∀ y Ω', M y Ω' → Φ y Ω'
section
variable {X : Cx} {G : Gn} {e : Expr} {aa : AE} {at_ : AT} {st : Stmt} {rest : List Stmt} {s t : AS}
theorem jss_cut (h1 : JS X G st s) (h2 : JSs X G rest t) : JSs X G (st :: rest) (aSeqE s t) := by
  obtain ⟨ts, p1, q1⟩ := h1
  obtain ⟨tu, p2, q2⟩ := h2
  exact ⟨_, pss_cons p1 p2, ⟨fun {D ρ Ω} ⟨M, h, h'⟩ {P F H σ D'} k o rp => q1.go h (D' := { D' with nx := tu D' }) ⟨fun q o z rp => q2.go (h' _ _ q) (k.up z) o rp, k.rt, k.bk, k.ct⟩ o rp⟩⟩
theorem je_join (h : JE X G e aa) : JE X G e (aJoin aa) := by
  obtain ⟨te, p, q⟩ := h
  exact ⟨te, p, ⟨fun {ρ Ω Φ} ⟨M, h, h'⟩ {P F H σ Q} o rp k => q.go h o rp fun {v sv Ω' F' H'} z o z2 r => k (h' _ _ z) o z2 r⟩⟩
theorem jt_join (h : JT X G e at_) : JT X G e (aJoinT at_) := by
  obtain ⟨te, p, q⟩ := h
  exact ⟨te, p, ⟨fun {ρ Ω Φ} ⟨M, h, h'⟩ {P F H σ Q} o rp k => q.go h o rp fun {b Ω' F' H'} z o z2 => k (h' _ _ z) o z2⟩⟩
end
end Z
/-! Zy: isinstance of an exception in hand and a tuple of classes; a pick out of a list or a tuple. -/
namespace Z
open PySem PySem.Spec PyProof.Rows L2
/-! ### isinstance(e, (C, ..)), e the exception in hand -/
def PAC (X : Cx) (es : List Expr) (vs : List V) : Prop := ∃ te, PA X es te ∧ ∀ σ H Q, Q vs H → te σ H Q
section
variable {X : Cx} {G : Gn} {e : Expr} {es : List Expr} {v : V} {vs : List V} {pos : Pos}
theorem pac_nil : PAC X [] [] := ⟨_, pa_nil, fun σ H Q h => h⟩
theorem pac_cons (h : PE X e (tC v)) (h2 : PAC X es vs) (hs : starEach (e :: es) X.env = (false, eval e X.env) :: starEach es X.env := by rfl) : PAC X (e :: es) (v :: vs) := by
  obtain ⟨te, p, q⟩ := h2
  exact ⟨_, pa_cons h p hs, fun σ H Q h => q _ _ _ h⟩
def rIsET (K : PySem.W.Frag) (D a : Addr) (b : Bool) : List V → Hp → VK → Prop := fun xs H Q => ∃ (tp : Addr) (cs : List V) (us : List Value), xs = [.ref a, .ref tp] ∧ H tp = some (.tup cs) ∧ Paired ClsV cs us ∧ PySem.W.kitAny K (.ref D) us = some b ∧ Q (.bl b) H
variable {D a : Addr} {oe : Obj} {b : Bool}
theorem cr_isET (hp : (a, oe) ∈ X.pn) (C : ExcC X.K D) (hz : L2N.Zn (.ref D) none oe) (hf : ∃ vs, oe.data = .fields vs) : CallR X (.builtin "isinstance") (rIsET X.K D a b) := by
  intro pins s σ H xs us Q I r h
  obtain ⟨tp, cs, ws, rfl, hT, hc, hk, q⟩ := h
  obtain ⟨u1, u2, rfl, r1, r2⟩ := vals2 r
  cases (show u1 = Value.ref a from r1)
  cases (show u2 = Value.ref tp from r2)
  obtain ⟨_, its, rv, o, h1, h2, n, h3⟩ := (show ObjOk X.prog X.w H s.heap tp (.tup cs) from I.hok tp _ hT)
  have e3 := ClsV.all hc rv
  subst e3
  obtain ⟨oc, od, dt, sl⟩ := o
  simp only at h2 h3
  subst h2 h3
  have there := (I.pin (a, oe) (List.mem_append_left _ hp)).1
  obtain ⟨vs, hd⟩ := hf
  have J : PySem.W.InstAt s.heap a oe D none := by
    obtain ⟨c0, d0, t0, l0⟩ := oe
    obtain ⟨z1, z2, -⟩ := hz
    cases (show c0 = _ from z1)
    cases (show d0 = _ from z2)
    cases (show t0 = _ from hd)
    exact ⟨there, rfl, rfl, trivial⟩
  exact PySem.W.kia_tup (PySem.W.handS_kitx_exc C.hg C.hk C.hs C.hd C.ha C.hn C.ht C.hm) I.kIn J h1 hk (fun z => by cases z) fun tk => ⟨.bl b, H, I.kept (t' := tk) fun _ _ z => z, rfl, q⟩
def aIsET (a : Addr) (b : Bool) (aa : AE) : AE := fun ρ Ω Φ => aa ρ Ω fun x Ω' => x = .r (.ref a) ∧ Φ (.d (.bool b)) Ω'
theorem je_isET {aa : AE} {us : List Value} {p p2 : Pos} {x1} (hp : (a, oe) ∈ X.pn) (C : ExcC X.K D) (hz : L2N.Zn (.ref D) none oe) (hf : ∃ vs, oe.data = .fields vs) (hg : Gl X "isinstance") (hm : X.mg "isinstance" = none) (ha : JE X G e aa)
    (hes : PAC X es vs) (hl : vs.length ≤ sizeLine) (hc : Paired ClsV vs us) (hk : PySem.W.kitAny X.K (.ref D) us = some b)
    (hs1 : starEach [e, .Tuple es x1 p2] X.env = (false, eval e X.env) :: starEach [.Tuple es x1 p2] X.env := by rfl) (hs2 : starEach [.Tuple es x1 p2] X.env = (false, eval (.Tuple es x1 p2) X.env) :: starEach [] X.env := by rfl)
    (hpl : (backTo pos (starEach [.Tuple es x1 p2] X.env)).any (·.1) = false := by rfl) : JE X G (.Call (.Name "isinstance" p) [e, .Tuple es x1 p2] [] pos) (aIsET a b aa) := by
  obtain ⟨te, h1, h2⟩ := ha
  obtain ⟨tt, h3, h4⟩ := hes
  refine ⟨_, pe_callB (cr_isET (b := b) hp C hz hf) hg hm (by decide +kernel) (pa_cons h1 (pa_cons (pe_tup h3) pa_nil hs2) hs1) (by decide) (by decide) hs1 hpl, ⟨fun {ρ Ω Φ} h {P F H σ Q} o rp k => ?_⟩⟩
  refine h2.go h o rp fun {v sv Ω1 F1 H1} q o1 s1 r1 => ?_
  obtain ⟨rfl, q⟩ := q
  cases (show v = _ from r1)
  refine h4 _ _ _ ⟨hl, fun t ht => ?_⟩
  obtain ⟨o2, -⟩ := (⟨o1.newO (o := .tup vs) (c := .raw (.tup vs)) ht rfl, trivial⟩ : _ ∧ True)
  exact ⟨t, _, _, rfl, upd_same, hc, hk, k q (o2.sub (List.sublist_cons_self ..)) s1 (.bl _)⟩
end
/-! ### a pick out of a list or a tuple -/
inductive Pick2 : Con where
  | lst {x : SV} {ds : List PyData} {L R Ω : Om} {Φ : PhiE} {Ξ : XA} : Bag x L R Ω → ds ≠ [] → ds.length < 2 ^ 60 → (∀ d ∈ ds, ∀ Ω', Bag x L R Ω' → Φ (.d d) Ω') → Pick2 [x, .d (.list ds)] Ω Φ Ξ
  | tup {x : SV} {ds : List PyData} {L R Ω : Om} {Φ : PhiE} {Ξ : XA} : Bag x L R Ω → ds ≠ [] → ds.length < 2 ^ 60 → (∀ d ∈ ds, ∀ Ω', Bag x L R Ω' → Φ (.d d) Ω') → Pick2 [x, .d (.tuple ds)] Ω Φ Ξ
theorem Pick2.ari : Ari Pick2 2 := by rintro _ _ _ _ (⟨_, _, _, _⟩ | ⟨_, _, _, _⟩) <;> rfl
end Z
/-! Zv: data that can be told as text and compared, by its parts; least terms. -/
namespace Z
open PySem PySem.Spec PyProof.Rows L2
/-- k: the depth, L: the length of its text -/
structure Rep (k L : Nat) (d : PyData) : Prop where
  sh : d.showable = true
  nd : d.hasDict = false
  dp : d.depth ≤ k
  ln : d.shown.length ≤ L
  cl : d.canLay0 = true
theorem Rep.mono {k L k' L' : Nat} {d : PyData} (h : Rep k L d) (h1 : k ≤ k') (h2 : L ≤ L') : Rep k' L' d := ⟨h.sh, h.nd, Nat.le_trans h.dp h1, Nat.le_trans h.ln h2, h.cl⟩
theorem Rep.shaped {k L : Nat} {d : PyData} (h : Rep k L d) (hk : k ≤ 64) : SeqAt.shaped d = true := by
  unfold SeqAt.shaped
  rw [h.cl, Bool.true_and, decide_eq_true_eq]
  exact Nat.le_trans h.dp hk
theorem Rep.eq {k L : Nat} {d : PyData} (h : Rep k L d) (hk : k ≤ 64) : PyData.eqv d d = true := SeqAt.eqv_refl d (SeqAt.canLay_of_shaped (h.shaped hk))
theorem Rep.repr {k L : Nat} {d : PyData} (h : Rep k L d) (hk : k ≤ 60) (hL : L ≤ 16777216) : d.showable = true ∧ d.hasDict = false ∧ d.depth ≤ 60 ∧ d.shown.length ≤ sizeLine := by
  have e : sizeLine = 16777216 := by decide
  exact ⟨h.sh, h.nd, Nat.le_trans h.dp hk, Nat.le_trans h.ln (by omega)⟩
theorem rep_int {i : Int} (h : i.natAbs < 2 ^ 1900) : Rep 0 2000 (.int i) := by
  have h2 : i.natAbs.log2 < 1900 := log2_lt h (by decide)
  exact ⟨by simp only [PyData.showable, decide_eq_true_eq]; omega, rfl, by simp [PyData.depth], by
    have := int_text_len_1921 (i := i) (by omega)
    simp only [PyData.shown]
    omega, rfl⟩
theorem rep_i {i : Int} (h0 : -(2 ^ 240) < i) (h : i < 2 ^ 240) : Rep 0 2000 (.int i) := rep_int (Nat.lt_of_lt_of_le (nat_bd h0 h) (by decide +kernel))
theorem rep_none : Rep 0 2000 .none := ⟨rfl, rfl, by simp [PyData.depth], by simp only [PyData.shown]; decide +kernel, rfl⟩
theorem rep_bool {b : Bool} : Rep 0 2000 (.bool b) := ⟨rfl, rfl, by simp [PyData.depth], by cases b <;> (simp only [PyData.shown]; decide +kernel), rfl⟩
theorem rep_str {x : Str} (h : (reprText x).length ≤ 2000) (h2 : PySem.PyData.strOk x = true) : Rep 0 2000 (.str x) := ⟨rfl, rfl, by simp [PyData.depth], by simp only [PyData.shown]; exact h, by simp only [PyData.canLay0]; exact h2⟩
theorem rep_all {k L : Nat} : ∀ {ds : List PyData}, (∀ d ∈ ds, Rep k L d) → PyData.showableAll ds = true ∧ PyData.hasDictAll ds = false ∧ PyData.depthAll ds ≤ k ∧ ((PyData.shownAll ds).length = ds.length ∧ ∀ t ∈ PyData.shownAll ds, t.length ≤ L) ∧ PyData.canLayAll0 ds = true
  | [], _ => ⟨rfl, rfl, by simp [PyData.depthAll], ⟨rfl, fun _ h => by cases h⟩, rfl⟩
  | d :: r, h => by
    obtain ⟨a, b, c, ⟨e, f⟩, g⟩ := rep_all (ds := r) fun x hx => h x (List.mem_cons_of_mem _ hx)
    have hd := h d List.mem_cons_self
    refine ⟨?_, ?_, ?_, ⟨?_, ?_⟩, ?_⟩
    · simp only [PyData.showableAll, hd.sh, a, Bool.and_self]
    · simp only [PyData.hasDictAll, hd.nd, b, Bool.or_self]
    · simp only [PyData.depthAll]
      have := hd.dp
      omega
    · simp only [PyData.shownAll, List.length_cons, e]
    · intro t ht
      simp only [PyData.shownAll, List.mem_cons] at ht
      rcases ht with rfl | ht
      · exact hd.ln
      · exact f t ht
    · simp only [PyData.canLayAll0, hd.cl, g, Bool.and_self]
theorem textFrom_le {B : Nat} : ∀ (ts : List Str) (k : Nat) (acc : Str), (∀ t ∈ ts, t.length ≤ B) → (textFrom k acc ts).length ≤ acc.length + ts.length * (B + 2)
  | [], k, acc, _ => by
    show acc.length ≤ _
    omega
  | t :: r, k, acc, h => by
    have h1 := h t List.mem_cons_self
    have ih := fun k acc => textFrom_le r k acc fun x hx => h x (List.mem_cons_of_mem _ hx)
    have e : (Str.ofString ", ").length = 2 := by decide +kernel
    show (textFrom (k + 1) _ r).length ≤ _
    refine Nat.le_trans (ih _ _) ?_
    rw [List.length_cons, Nat.succ_mul]
    have e0 : (Str.ofString "").length = 0 := by decide +kernel
    split
    · rw [strLen_append, strLen_append, e]
      omega
    · rw [strLen_append, strLen_append, e0]
      omega
theorem rep_tup {k L n : Nat} {ds : List PyData} (h : ∀ d ∈ ds, Rep k L d) (hn : ds.length ≤ n) : Rep (k + 1) (n * (L + 2) + 4) (.tuple ds) := by
  obtain ⟨a, b, c, ⟨e, f⟩, g⟩ := rep_all h
  refine ⟨by simp only [PyData.showable, a], by simp only [PyData.hasDict, b], by simp only [PyData.depth]; omega, ?_, by simp only [PyData.canLay0, g]⟩
  have j := join_le f
  simp only [PyData.shown, tupleText]
  rw [strLen_append, strLen_append]
  have e1 : (Str.ofString "(").length = 1 := by decide +kernel
  have e2 : (Str.ofString (if (PyData.shownAll ds).length == 1 then ",)" else ")" : String)).length ≤ 2 := by split <;> decide +kernel
  rw [e1]
  rw [e] at j
  have : ds.length * (L + 2) ≤ n * (L + 2) := Nat.mul_le_mul_right _ hn
  omega
theorem rep_lst {k L n : Nat} {ds : List PyData} (h : ∀ d ∈ ds, Rep k L d) (hn : ds.length ≤ n) : Rep (k + 1) (n * (L + 2) + 4) (.list ds) := by
  obtain ⟨a, b, c, ⟨e, f⟩, g⟩ := rep_all h
  refine ⟨by simp only [PyData.showable, a], by simp only [PyData.hasDict, b], by simp only [PyData.depth]; omega, ?_, by simp only [PyData.canLay0, g]⟩
  have j := textFrom_le (PyData.shownAll ds) 0 "[" f
  simp only [PyData.shown, listText]
  rw [strLen_append]
  have e1 : (Str.ofString "[").length = 1 := by decide +kernel
  have e2 : (Str.ofString "]").length = 1 := by decide +kernel
  rw [e1, e] at j
  rw [e2]
  have : ds.length * (L + 2) ≤ n * (L + 2) := Nat.mul_le_mul_right _ hn
  omega
/-! ### pairs of ints -/
abbrev prd (p : Int × Int) : PyData := .tuple [.int p.1, .int p.2]
abbrev prD (l : List (Int × Int)) : List PyData := l.map prd
theorem get_prD {l : List (Int × Int)} {i : Nat} {x : SV} (h : ((prD l).map SV.d)[i]? = some x) : ∃ p, l[i]? = some p ∧ x = .d (prd p) := by
  obtain ⟨d, h1, rfl⟩ := get_mapD h
  rw [prD, List.getElem?_map] at h1
  cases e : l[i]? with
  | none => rw [e] at h1; cases h1
  | some p => rw [e] at h1; cases h1; exact ⟨p, rfl, rfl⟩
theorem eqvAll_prD : ∀ l m : List (Int × Int), PyData.eqvAll (prD l) (prD m) = decide (l = m)
  | [], [] => by simp [prD, PyData.eqvAll]
  | [], _ :: _ => by simp [prD, PyData.eqvAll]
  | _ :: _, [] => by simp [prD, PyData.eqvAll]
  | (a, b) :: r, (c, d) :: t => by
    have h := eqvAll_prD r t
    simp only [prD] at h
    simp only [prD, List.map_cons, PyData.eqvAll, PyData.eqv, h, prd]
    by_cases e : a = c <;> by_cases e2 : b = d <;> by_cases e3 : r = t <;> simp [e, e2, e3]
theorem eqv_prd (p q : Int × Int) : PyData.eqv (prd p) (prd q) = decide (p = q) := by
  obtain ⟨a, b⟩ := p
  obtain ⟨c, d⟩ := q
  simp only [prd, PyData.eqv, PyData.eqvAll]
  by_cases e : a = c <;> by_cases e2 : b = d <;> simp [e, e2]
theorem canLayAll_prD : ∀ l : List (Int × Int), PyData.canLayAll0 (prD l) = true
  | [] => rfl
  | _ :: r => by
    have h := canLayAll_prD r
    simp only [prD] at h
    simp only [prD, List.map_cons, PyData.canLayAll0, PyData.canLay0, h, Bool.and_self]
theorem depthAll_prD : ∀ l : List (Int × Int), PyData.depthAll (prD l) ≤ 2
  | [] => by simp [prD, PyData.depthAll]
  | _ :: r => by
    have h := depthAll_prD r
    simp only [prD] at h
    simp only [prD, List.map_cons, PyData.depthAll, PyData.depth, prd]
    omega
theorem shaped_prD (l : List (Int × Int)) : SeqAt.shaped (.tuple (prD l)) = true ∧ SeqAt.shaped (.list (prD l)) = true := by
  have h := depthAll_prD l
  have c := canLayAll_prD l
  unfold SeqAt.shaped
  simp only [PyData.canLay0, PyData.depth, Bool.and_eq_true]
  have h2 : PyData.depthAll (prD l) + 1 ≤ 64 := by omega
  exact ⟨⟨c, decide_eq_true h2⟩, ⟨c, decide_eq_true h2⟩⟩
theorem eqv_prD (l m : List (Int × Int)) : PyData.eqv (.tuple (prD l)) (.tuple (prD m)) = decide (l = m) := by
  rw [PyData.eqv]
  exact eqvAll_prD l m
theorem shaped_prd (p : Int × Int) : SeqAt.shaped (prd p) = true := (shaped_isD [p.1, p.2]).1
/-- a comprehension of bools -/
theorem newX_bools {m : Mode} {bs : List Bool} {Ω : Om} {Φ : PhiE} (h : newL m (bs.map PyData.bool) Ω Φ) : newX m (bs.map fun b => SV.d (.bool b)) Ω Φ := by
  have e : (bs.map fun b => SV.d (.bool b)) = (bs.map PyData.bool).map SV.d := by rw [List.map_map]; rfl
  rw [e]
  exact newX_d h
theorem fAll_of {bs : List Bool} {Ω : Om} {Φ : PhiE} (h : Φ (.d (.bool (bs.all id))) Ω) : fAll (.d (.list (bs.map PyData.bool))) Ω Φ := ⟨bs, trivial, rfl, h⟩
theorem fAny_of {bs : List Bool} {Ω : Om} {Φ : PhiE} (h : Φ (.d (.bool (bs.any id))) Ω) : fAny (.d (.list (bs.map PyData.bool))) Ω Φ := ⟨bs, trivial, rfl, h⟩
/-! ### least terms -/
abbrev g2 (a b : Int) : Int := ((Nat.gcd a.natAbs b.natAbs : Nat) : Int)
def least (a b : Int) : Int × Int := (a / g2 a b, b / g2 a b)
theorem g2_pos {a b : Int} (h : 0 < b) : 0 < g2 a b := by
  have := Nat.gcd_pos_of_pos_right a.natAbs (show 0 < b.natAbs by omega)
  show (0 : Int) < ((_ : Nat) : Int)
  omega
theorem g2_le {a b : Int} (h : 0 < b) : g2 a b ≤ b := by
  have := Nat.le_of_dvd (show 0 < b.natAbs by omega) (Nat.gcd_dvd_right a.natAbs b.natAbs)
  show ((_ : Nat) : Int) ≤ b
  omega
theorem least_mul {a b : Int} (h : 0 < b) : g2 a b * (least a b).1 = a ∧ g2 a b * (least a b).2 = b :=
  ⟨Int.mul_ediv_cancel' (Int.gcd_dvd_left a b), Int.mul_ediv_cancel' (Int.gcd_dvd_right a b)⟩
theorem least_rng {a b : Int} (h0 : 0 ≤ a) (h : 0 < b) : 0 ≤ (least a b).1 ∧ (least a b).1 ≤ a ∧ 1 ≤ (least a b).2 ∧ (least a b).2 ≤ b ∧ (0 < a → 1 ≤ (least a b).1) := by
  obtain ⟨e1, e2⟩ := least_mul (a := a) h
  have g := g2_pos (a := a) h
  have r1 : 0 ≤ (least a b).1 := Int.ediv_nonneg h0 (Int.le_of_lt g)
  have r2 : 0 ≤ (least a b).2 := Int.ediv_nonneg (Int.le_of_lt h) (Int.le_of_lt g)
  have r3 : 1 ≤ (least a b).2 := by
    rcases Int.lt_or_eq_of_le r2 with z | z
    · omega
    · rw [← z, Int.mul_zero] at e2; omega
  refine ⟨r1, Int.ediv_le_self _ h0, r3, Int.ediv_le_self _ (Int.le_of_lt h), fun p => ?_⟩
  rcases Int.lt_or_eq_of_le r1 with z | z
  · omega
  · rw [← z, Int.mul_zero] at e1; omega
theorem least_co {a b : Int} (h : 0 < b) : Nat.gcd (least a b).1.natAbs (least a b).2.natAbs = 1 := by
  obtain ⟨e1, e2⟩ := least_mul (a := a) h
  have g := g2_pos (a := a) h
  have n1 : a.natAbs = Nat.gcd a.natAbs b.natAbs * (least a b).1.natAbs := by
    have := congrArg Int.natAbs e1
    rw [Int.natAbs_mul] at this
    exact this.symm
  have n2 : b.natAbs = Nat.gcd a.natAbs b.natAbs * (least a b).2.natAbs := by
    have := congrArg Int.natAbs e2
    rw [Int.natAbs_mul] at this
    exact this.symm
  have hg : 0 < Nat.gcd a.natAbs b.natAbs := by
    have : (0 : Int) < ((Nat.gcd a.natAbs b.natAbs : Nat) : Int) := g
    omega
  have e : Nat.gcd a.natAbs b.natAbs = Nat.gcd a.natAbs b.natAbs * Nat.gcd (least a b).1.natAbs (least a b).2.natAbs := by
    rw [← Nat.gcd_mul_left, ← n1, ← n2]
  have e3 : Nat.gcd a.natAbs b.natAbs * Nat.gcd (least a b).1.natAbs (least a b).2.natAbs = Nat.gcd a.natAbs b.natAbs * 1 := by omega
  exact Nat.eq_of_mul_eq_mul_left hg e3
theorem least_cross {a b : Int} (h : 0 < b) : (least a b).1 * b = a * (least a b).2 := by
  obtain ⟨e1, e2⟩ := least_mul (a := a) h
  have : (least a b).1 * (g2 a b * (least a b).2) = (g2 a b * (least a b).1) * (least a b).2 := by rw [Int.mul_left_comm, Int.mul_assoc]
  rwa [e1, e2] at this
/-- two fractions of least terms that are worth the same -/
theorem co_uniq {p q r s : Int} (hq : 0 < q) (hs : 0 < s) (hp : 0 ≤ p) (hr : 0 ≤ r) (c1 : Nat.gcd p.natAbs q.natAbs = 1) (c2 : Nat.gcd r.natAbs s.natAbs = 1) (e : p * s = r * q) : p = r ∧ q = s := by
  have n : p.natAbs * s.natAbs = r.natAbs * q.natAbs := by
    have := congrArg Int.natAbs e
    rwa [Int.natAbs_mul, Int.natAbs_mul] at this
  have d1 : q.natAbs ∣ s.natAbs := (Nat.Coprime.symm c1).dvd_of_dvd_mul_left (n ▸ Nat.dvd_mul_left ..)
  have d2 : s.natAbs ∣ q.natAbs := (Nat.Coprime.symm c2).dvd_of_dvd_mul_left (n ▸ Nat.dvd_mul_left ..)
  have eq : q.natAbs = s.natAbs := Nat.dvd_antisymm d1 d2
  have eq' : q = s := by omega
  refine ⟨?_, eq'⟩
  rw [eq'] at e
  exact Int.eq_of_mul_eq_mul_right (by omega) e
theorem least_eq {a b c d : Int} (h0 : 0 ≤ a) (h1 : 0 < b) (h2 : 0 ≤ c) (h3 : 0 < d) (e : a * d = c * b) : least a b = least c d := by
  have r1 := least_rng h0 h1
  have r2 := least_rng h2 h3
  obtain ⟨a1, a2⟩ := least_mul (a := a) h1
  obtain ⟨b1, b2⟩ := least_mul (a := c) h3
  have g1 := g2_pos (a := a) h1
  have g3 := g2_pos (a := c) h3
  have key : (least a b).1 * (least c d).2 = (least c d).1 * (least a b).2 := by
    have k : (g2 a b * g2 c d) * ((least a b).1 * (least c d).2) = (g2 a b * g2 c d) * ((least c d).1 * (least a b).2) := by
      have x1 : (g2 a b * g2 c d) * ((least a b).1 * (least c d).2) = (g2 a b * (least a b).1) * (g2 c d * (least c d).2) := by
        rw [Int.mul_assoc, Int.mul_assoc, Int.mul_left_comm (g2 c d)]
      have x2 : (g2 a b * g2 c d) * ((least c d).1 * (least a b).2) = (g2 c d * (least c d).1) * (g2 a b * (least a b).2) := by
        rw [Int.mul_comm (g2 a b) (g2 c d), Int.mul_assoc, Int.mul_assoc, Int.mul_left_comm (g2 a b)]
      rw [x1, x2, a1, a2, b1, b2]
      exact e
    exact Int.eq_of_mul_eq_mul_left (by have := Int.mul_pos g1 g3; omega) k
  have := co_uniq (by omega) (by omega) r1.1 r2.1 (least_co h1) (least_co h3) key
  exact Prod.ext this.1 this.2
theorem least_cancel {a b c d : Int} (h1 : 0 < b) (h3 : 0 < d) (e : least a b = least c d) : a * d = c * b := by
  have x := least_cross (a := a) h1
  have y := least_cross (a := c) h3
  rw [e] at x
  have q : 0 < (least c d).2 := by
    obtain ⟨b1, b2⟩ := least_mul (a := c) h3
    have g3 := g2_pos (a := c) h3
    rcases Int.lt_trichotomy (least c d).2 0 with z | z | z
    · have := Int.mul_neg_of_pos_of_neg g3 z; omega
    · rw [z, Int.mul_zero] at b2; omega
    · exact z
  -- x : P * b = a * Q, y : P * d = c * Q
  have k : (a * d) * (least c d).2 = (c * b) * (least c d).2 := by
    rw [Int.mul_assoc, Int.mul_comm d, ← Int.mul_assoc, ← x, Int.mul_assoc, Int.mul_comm b d, ← Int.mul_assoc, y, Int.mul_assoc, Int.mul_comm _ b, ← Int.mul_assoc]
  exact Int.eq_of_mul_eq_mul_right (by omega) k
theorem least_self {a b : Int} (h0 : 0 ≤ a) (h : 0 < b) (c : Nat.gcd a.natAbs b.natAbs = 1) : least a b = (a, b) := by
  have r := least_rng h0 h
  have := co_uniq (by omega) h r.1 h0 (least_co h) c (least_cross h)
  exact Prod.ext this.1 this.2
end Z
/-! Zu: comprehensions that stop a reading, and the common kinds of them. -/
namespace Z
open PySem PySem.Spec PyProof.Rows L2
/-- the turns of a comprehension: turn x Ω Y N: from the item x on, Y with what is put down, N if nothing is -/
structure LcS (m : Mode) (xs : List SV) (Kp : Om → Prop) (Ω1 : Om) (turn : SV → Om → (SV → Om → Prop) → (Om → Prop) → Prop) (Φ : PhiE) : Prop where
  ln : xs.length ≤ 1000000
  ex : ∃ W : Nat → List SV → Om → Prop, W 0 [] Ω1 ∧ (∀ i acc Ω, W i acc Ω → Kp Ω ∧ acc.length ≤ i) ∧
    (∀ i x acc Ω, xs[i]? = some x → W i acc Ω → turn x Ω (fun y Ω3 => W (i + 1) (acc ++ [y]) Ω3) (fun Ω2 => W (i + 1) acc Ω2)) ∧
    ∀ acc Ω, W xs.length acc Ω → newX m acc Ω Φ
def aLc2 (m : Mode) (ai : AI) (g : AG) (tt : AT) (te : AE) (vs : List Nat) : AE := fun ρ Ω Φ => ai ρ Ω fun xs Kp Ω1 => LcS m xs Kp Ω1 (fun x Ω Y N => g x (wipR ρ vs) fun ρ' => tt ρ' Ω fun b Ω2 => br b (te ρ' Ω2 Y) (N Ω2)) Φ
theorem aLc2_eq {m : Mode} {ai : AI} {g : AG} {tt : AT} {te : AE} {vs : List Nat} : aLc m ai g tt te vs = aLc2 m ai g tt te vs := by
  funext ρ Ω Φ
  unfold aLc aLc2
  congr 1
  funext xs Kp Ω1
  exact propext ⟨fun ⟨h1, h2⟩ => ⟨h1, h2⟩, fun ⟨h1, h2⟩ => ⟨h1, h2⟩⟩
theorem lc2 {X : Cx} {G : Gn} {e : Expr} {m : Mode} {ai : AI} {g : AG} {tt : AT} {te : AE} {vs : List Nat} (h : JE X G e (aLc m ai g tt te vs)) : JE X G e (aLc2 m ai g tt te vs) := aLc2_eq ▸ h
theorem lc2s {X : Cx} {G : Gn} {s : Stmt} {m : Mode} {ai : AI} {g g' : AG} {tt : AT} {te : AE} {vs : List Nat} (h : JS X G s (aAsg (aLc m ai g tt te vs) g')) : JS X G s (aAsg (aLc2 m ai g tt te vs) g') := aLc2_eq ▸ h
section
variable {m : Mode} {xs : List SV} {Kp : Om → Prop} {Ω1 : Om} {turn : SV → Om → (SV → Om → Prop) → (Om → Prop) → Prop} {Φ : PhiE}
/-- each item tells one value, that the place tells -/
theorem lc_at (f : Nat → PyData) (J : Om → Prop) (hl : xs.length ≤ 1000000) (j0 : J Ω1) (kp : ∀ Ω, J Ω → Kp Ω)
    (t : ∀ i x Ω (Y : SV → Om → Prop) (N : Om → Prop), xs[i]? = some x → J Ω → (∀ Ω', J Ω' → Y (.d (f i)) Ω') → turn x Ω Y N)
    (fin : ∀ Ω, J Ω → newL m ((List.range xs.length).map f) Ω Φ) : LcS m xs Kp Ω1 turn Φ := by
  refine ⟨hl, fun i acc Ω => acc = ((List.range i).map f).map SV.d ∧ J Ω, ⟨rfl, j0⟩, fun i acc Ω ⟨h1, h2⟩ => ⟨kp _ h2, by rw [h1, List.length_map, List.length_map, List.length_range]; exact Nat.le_refl _⟩, ?_, ?_⟩
  · rintro i x acc Ω e ⟨rfl, j⟩
    refine t i x Ω _ _ e j fun Ω' j' => ⟨?_, j'⟩
    rw [List.range_succ, List.map_append, List.map_append]
    rfl
  · rintro acc Ω ⟨rfl, j⟩
    exact newX_d (fin Ω j)
/-- .. that the item tells -/
theorem lc_map {ds : List PyData} (f : PyData → PyData) (J : Om → Prop) (hl : ds.length ≤ 1000000) (j0 : J Ω1) (kp : ∀ Ω, J Ω → Kp Ω)
    (t : ∀ d Ω (Y : SV → Om → Prop) (N : Om → Prop), d ∈ ds → J Ω → (∀ Ω', J Ω' → Y (.d (f d)) Ω') → turn (.d d) Ω Y N)
    (fin : ∀ Ω, J Ω → newL m (ds.map f) Ω Φ) : LcS m (ds.map SV.d) Kp Ω1 turn Φ := by
  refine lc_at (fun i => f (ds.getD i .none)) J (by rw [List.length_map]; exact hl) j0 kp (fun i x Ω Y N e j k => ?_) fun Ω j => ?_
  · obtain ⟨d, h1, rfl⟩ := get_mapD e
    refine t d Ω Y N (List.mem_of_getElem? h1) j fun Ω' j' => ?_
    have := k Ω' j'
    rw [List.getD_eq_getElem?_getD, h1] at this
    exact this
  · have e : (List.range (ds.map SV.d).length).map (fun i => f (ds.getD i .none)) = ds.map f := by
      refine List.ext_getElem? fun i => ?_
      rw [List.length_map, List.getElem?_map, List.getElem?_map]
      by_cases z : i < ds.length
      · rw [List.getElem?_eq_getElem (by rw [List.length_range]; exact z), List.getElem_range, List.getElem?_eq_getElem z]
        simp [List.getD_eq_getElem?_getD, z]
      · rw [List.getElem?_eq_none (by rw [List.length_range]; omega), List.getElem?_eq_none (by omega)]
        rfl
    rw [e]
    exact fin Ω j
/-- .. ints of ints -/
theorem lc_ints {is : List Int} (f : Int → Int) (J : Om → Prop) (hl : is.length ≤ 1000000) (j0 : J Ω1) (kp : ∀ Ω, J Ω → Kp Ω)
    (t : ∀ i Ω (Y : SV → Om → Prop) (N : Om → Prop), i ∈ is → J Ω → (∀ Ω', J Ω' → Y (I (f i)) Ω') → turn (I i) Ω Y N)
    (fin : ∀ Ω, J Ω → newL m (isD (is.map f)) Ω Φ) : LcS m ((isD is).map SV.d) Kp Ω1 turn Φ := by
  refine lc_map (fun d => match d with | .int i => .int (f i) | d => d) J (by rw [len_isD]; exact hl) j0 kp (fun d Ω Y N hd j k => ?_) fun Ω j => ?_
  · obtain ⟨i, hi, rfl⟩ := List.mem_map.mp hd
    exact t i Ω Y N hi j k
  · have := fin Ω j
    rw [isD, List.map_map] at this
    rw [isD, List.map_map]
    exact this
/-- .. bools of data -/
theorem lc_bools {ds : List PyData} (f : PyData → Bool) (J : Om → Prop) (hl : ds.length ≤ 1000000) (j0 : J Ω1) (kp : ∀ Ω, J Ω → Kp Ω)
    (t : ∀ d Ω (Y : SV → Om → Prop) (N : Om → Prop), d ∈ ds → J Ω → (∀ Ω', J Ω' → Y (.d (.bool (f d))) Ω') → turn (.d d) Ω Y N)
    (fin : ∀ Ω, J Ω → newL m ((ds.map f).map PyData.bool) Ω Φ) : LcS m (ds.map SV.d) Kp Ω1 turn Φ :=
  lc_map (fun d => .bool (f d)) J hl j0 kp t fun Ω j => by
    have := fin Ω j
    rw [List.map_map] at this
    exact this
/-- .. any value that fits its place -/
theorem lc_rel (P : Nat → PyData → Prop) (J : Om → Prop) (hl : xs.length ≤ 1000000) (j0 : J Ω1) (kp : ∀ Ω, J Ω → Kp Ω)
    (t : ∀ i x Ω (Y : SV → Om → Prop) (N : Om → Prop), xs[i]? = some x → J Ω → (∀ d Ω', P i d → J Ω' → Y (.d d) Ω') → turn x Ω Y N)
    (fin : ∀ ds Ω, ds.length = xs.length → (∀ i d, ds[i]? = some d → P i d) → J Ω → newL m ds Ω Φ) : LcS m xs Kp Ω1 turn Φ := by
  refine ⟨hl, fun i acc Ω => ∃ ds : List PyData, acc = ds.map SV.d ∧ ds.length = i ∧ (∀ i d, ds[i]? = some d → P i d) ∧ J Ω, ⟨[], rfl, rfl, fun i d h => by simp at h, j0⟩, fun i acc Ω ⟨ds, h1, h2, h3, h4⟩ => ⟨kp _ h4, by rw [h1, List.length_map, h2]; exact Nat.le_refl _⟩, ?_, ?_⟩
  · rintro i x acc Ω e ⟨ds, rfl, hn, hP, j⟩
    refine t i x Ω _ _ e j fun d Ω' p j' => ⟨ds ++ [d], by rw [List.map_append]; rfl, by rw [List.length_append, hn]; rfl, fun a b h => ?_, j'⟩
    rw [List.getElem?_append] at h
    split at h
    · exact hP a b h
    · have : a = i := by
        rcases Nat.lt_or_ge i a with z | z
        · rw [List.getElem?_eq_none (by rw [List.length_singleton]; omega)] at h; cases h
        · omega
      subst this
      rw [hn, Nat.sub_self] at h
      cases h
      exact p
  · rintro acc Ω ⟨ds, rfl, hn, hP, j⟩
    exact newX_d (fin ds Ω hn hP j)
/-- .. ints, each of which fits its place -/
theorem lc_relI (P : Nat → Int → Prop) (J : Om → Prop) (hl : xs.length ≤ 1000000) (j0 : J Ω1) (kp : ∀ Ω, J Ω → Kp Ω)
    (t : ∀ i x Ω (Y : SV → Om → Prop) (N : Om → Prop), xs[i]? = some x → J Ω → (∀ d Ω', P i d → J Ω' → Y (I d) Ω') → turn x Ω Y N)
    (fin : ∀ is Ω, is.length = xs.length → (∀ i d, is[i]? = some d → P i d) → J Ω → newL m (isD is) Ω Φ) : LcS m xs Kp Ω1 turn Φ := by
  refine lc_rel (fun i d => ∃ z, d = .int z ∧ P i z) J hl j0 kp (fun i x Ω Y N e j k => t i x Ω Y N e j fun d Ω' p j' => k _ _ ⟨d, rfl, p⟩ j') fun ds Ω hn hP j => ?_
  have ex : ∃ is : List Int, ds = isD is := by
    clear hn
    induction ds with
    | nil => exact ⟨[], rfl⟩
    | cons d r ih =>
      obtain ⟨z, rfl, -⟩ := hP 0 d rfl
      have : ∃ is : List Int, r = isD is := by
        clear ih
        have h : ∀ d ∈ r, ∃ z : Int, d = .int z := fun d hd => by
          obtain ⟨i, hi, rfl⟩ := List.mem_iff_getElem.mp hd
          obtain ⟨z, h, -⟩ := hP (i + 1) r[i] (by rw [List.getElem?_cons_succ]; exact List.getElem?_eq_getElem hi)
          exact ⟨z, h⟩
        clear hP
        induction r with
        | nil => exact ⟨[], rfl⟩
        | cons e r ih =>
          obtain ⟨z, rfl⟩ := h e List.mem_cons_self
          obtain ⟨is, rfl⟩ := ih fun d hd => h d (List.mem_cons_of_mem _ hd)
          exact ⟨z :: is, rfl⟩
      obtain ⟨is, rfl⟩ := this
      exact ⟨z :: is, rfl⟩
  obtain ⟨is, rfl⟩ := ex
  refine fin is Ω (by rw [← hn, len_isD]) (fun i d h => ?_) j
  obtain ⟨z, e, p⟩ := hP i (.int d) (by rw [isD, List.getElem?_map, h]; rfl)
  cases e
  exact p
/-- those items for which p holds -/
theorem lc_filter {ds : List PyData} (p : PyData → Bool) (J : Om → Prop) (hl : ds.length ≤ 1000000) (j0 : J Ω1) (kp : ∀ Ω, J Ω → Kp Ω)
    (t : ∀ d Ω (Y : SV → Om → Prop) (N : Om → Prop), d ∈ ds → J Ω → (p d = true → ∀ Ω', J Ω' → Y (.d d) Ω') → (p d = false → ∀ Ω', J Ω' → N Ω') → turn (.d d) Ω Y N)
    (fin : ∀ Ω, J Ω → newL m (ds.filter p) Ω Φ) : LcS m (ds.map SV.d) Kp Ω1 turn Φ := by
  refine ⟨by rw [List.length_map]; exact hl, fun i acc Ω => acc = ((ds.take i).filter p).map SV.d ∧ J Ω, ⟨rfl, j0⟩, fun i acc Ω ⟨h1, h2⟩ => ⟨kp _ h2, ?_⟩, ?_, ?_⟩
  · rw [h1, List.length_map]
    refine Nat.le_trans (List.length_filter_le ..) ?_
    rw [List.length_take]
    omega
  · rintro i x acc Ω e ⟨rfl, j⟩
    obtain ⟨d, h1, rfl⟩ := get_mapD e
    refine t d Ω _ _ (List.mem_of_getElem? h1) j (fun hp Ω' j' => ⟨?_, j'⟩) fun hp Ω' j' => ⟨?_, j'⟩
    · rw [List.take_add_one, h1, List.filter_append, List.map_append]
      simp [hp]
    · rw [List.take_add_one, h1, List.filter_append, List.map_append]
      simp [hp]
  · rintro acc Ω ⟨rfl, j⟩
    rw [List.length_map, List.take_length]
    exact newX_d (fin Ω j)
end
end Z
/-! Zk: dicts of ints and texts as cells of a def's own: {..}, d[k], d[k] = x, k in d. -/
namespace Z
open PySem PySem.Spec PyProof.Rows L2
abbrev Ent := Key × SV
def valS (kvs : List Ent) (k : Key) : Option SV := (kvs.find? fun p => decide (p.1 = k)).map (·.2)
def putS (kvs : List Ent) (k : Key) (x : SV) : List Ent := if (kvs.any fun p => decide (p.1 = k)) = true then kvs.map (fun p => if p.1 = k then (p.1, x) else p) else kvs ++ [(k, x)]
def mergeS (kvs more : List Ent) : List Ent := more.foldl (fun acc p => putS acc p.1 p.2) kvs
abbrev RpD (K : Frag) (F : Hp) : List (Key × V) → List Ent → Prop := Paired fun p q => p.1 = q.1 ∧ Rp K F p.2 q.2
section
variable {K : Frag} {F : Hp}
theorem rpd_any {k : Key} : ∀ {ws : List (Key × V)} {kvs : List Ent}, RpD K F ws kvs → (ws.any fun p => decide (p.1 = k)) = (kvs.any fun p => decide (p.1 = k))
  | _, _, .nil => rfl
  | _, _, .cons r t => by rw [List.any_cons, List.any_cons, r.1, rpd_any t]
theorem rpd_val {k : Key} : ∀ {ws : List (Key × V)} {kvs : List Ent}, RpD K F ws kvs → (valS kvs k = none ∧ valV ws k = none) ∨ ∃ v x, valS kvs k = some x ∧ valV ws k = some v ∧ Rp K F v x
  | _, _, .nil => .inl ⟨rfl, rfl⟩
  | p :: ws, q :: kvs, .cons r t => by
    by_cases e : p.1 = k
    · refine .inr ⟨p.2, q.2, ?_, valV_pos e, r.2⟩
      have e2 : q.1 = k := r.1 ▸ e
      simp [valS, List.find?_cons, e2]
    · have e2 : ¬ q.1 = k := r.1 ▸ e
      have h : valS (q :: kvs) k = valS kvs k := by simp [valS, List.find?_cons, e2]
      rw [h, valV_neg e]
      exact rpd_val t
theorem rpd_map {k : Key} {v : V} {x : SV} (rv : Rp K F v x) : ∀ {ws : List (Key × V)} {kvs : List Ent}, RpD K F ws kvs → RpD K F (ws.map fun kv => if kv.1 = k then (kv.1, v) else kv) (kvs.map fun p => if p.1 = k then (p.1, x) else p)
  | _, _, .nil => .nil
  | p :: ws, q :: kvs, .cons r t => by
    refine .cons ?_ (rpd_map rv t)
    dsimp only
    by_cases e : p.1 = k
    · rw [if_pos e, if_pos (r.1 ▸ e)]
      exact ⟨r.1, rv⟩
    · rw [if_neg e, if_neg (r.1 ▸ e)]
      exact r
theorem rpd_put {k : Key} {v : V} {x : SV} {ws : List (Key × V)} {kvs : List Ent} (r : RpD K F ws kvs) (rv : Rp K F v x) : RpD K F (putK ws k v) (putS kvs k x) := by
  unfold putK putS
  rw [rpd_any r]
  split
  · exact rpd_map rv r
  · exact pr_app r (.cons ⟨rfl, rv⟩ .nil)
theorem rpd_merge : ∀ {ms : List (Key × V)} {more : List Ent} {ws : List (Key × V)} {kvs : List Ent}, RpD K F ms more → RpD K F ws kvs → RpD K F (mergeK ws ms) (mergeS kvs more)
  | _, _, _, _, .nil, r => r
  | p :: ms, q :: more, ws, kvs, .cons h t, r => by
    show RpD K F (mergeK (putK ws p.1 p.2) ms) (mergeS (putS kvs q.1 q.2) more)
    refine rpd_merge t ?_
    rw [← h.1]
    exact rpd_put r h.2
theorem rpd_same {F' : Hp} (e : Same F F') {ws : List (Key × V)} {kvs : List Ent} (r : RpD K F ws kvs) : RpD K F' ws kvs := Paired.mapP r fun _ _ q => ⟨q.1, q.2.same e⟩
end
/-- a key -/
def keyOf : SV → Option Key
  | .d (.int i) => some (.inl i)
  | .d (.str s) => some (.inr s)
  | _ => none
theorem keyOf_ok {K : Frag} {F : Hp} {y : SV} {v : V} {k : Key} (h : keyOf y = some k) (r : Rp K F v y) : v = kV k := by
  unfold keyOf at h
  split at h
  · cases h; exact dqi r
  · cases h; exact dqs r
  · cases h
section
variable {X : Cx} {G : Gn} {e a b : Expr} {aa ab ac : AE} {pos : Pos}
/-- d[k] -/
def arDix : AR := fun x y Ω Φ => match x with
  | .r (.ref p) => ∃ kvs f k v, At Ω p (.dk kvs) f ∧ keyOf y = some k ∧ valS kvs k = some v ∧ Φ v Ω
  | _ => False
theorem je_dget (hu : X.A.units + 64 < cLine) (ha : JE X G a aa) (hb : JE X G b ab) (hs : NoSl b) : JE X G (.Subscript a b pos) (aBin arDix aa ab) := by
  obtain ⟨ta, p1, q1⟩ := ha
  obtain ⟨tb, p2, q2⟩ := hb
  refine ⟨_, pe_dget (by omega) p1 p2 hs, ⟨fun {ρ Ω Φ} h {P F H σ Q} o rp k => q1.go h o rp fun {v sv Ω1 F1 H1} z1 o1 s1 r1 => q2.go z1 o1 (rpe_same s1 rp) fun {v2 sv2 Ω2 F2 H2} z2 o2 s2 r2 => ?_⟩⟩
  unfold arDix at z2
  split at z2
  · obtain ⟨kvs, f, kk, w, t, e1, e2, z⟩ := z2
    cases (show v = _ from r1)
    obtain ⟨ws, h1, h2⟩ := o2.dk t
    obtain rfl := keyOf_ok e1 r2
    rcases rpd_val (k := kk) h2 with ⟨n, -⟩ | ⟨u, x, x1, x2, x3⟩
    · rw [n] at e2; cases e2
    · rw [x1] at e2
      cases e2
      exact ⟨_, u, rfl, x2 ▸ DGet.k h1, k z o2 (s1.trans s2) x3⟩
  · exact z2.elim
/-- k in d, k not in d -/
def arDinF (neg : Bool) : AR := fun y x Ω Φ => match x with
  | .r (.ref p) => ∃ kvs f k, At Ω p (.dk kvs) f ∧ keyOf y = some k ∧ Φ (.d (.bool (neg != (valS kvs k).isSome))) Ω
  | _ => False
theorem din_ok {E : En} {P F H : Hp} {Ω : Om} {neg : Bool} {x y : SV} {vx vy : V} {Φ : PhiE} (z : arDinF neg y x Ω Φ) (o : Ok E P F H Ω) (rx : Rp E.K F vx x) (ry : Rp E.K F vy y) : ∃ p ov, vx = .ref p ∧ DGet H p vy ov ∧ Φ (.d (.bool (neg != ov.isSome))) Ω := by
  unfold arDinF at z
  split at z
  · obtain ⟨kvs, f, kk, t, e1, z⟩ := z
    cases (show vx = _ from rx)
    obtain ⟨ws, h1, h2⟩ := o.dk t
    obtain rfl := keyOf_ok e1 ry
    refine ⟨_, _, rfl, DGet.k h1, ?_⟩
    rcases rpd_val (k := kk) h2 with ⟨n1, n2⟩ | ⟨u, x, x1, x2, x3⟩
    · rw [n2]; rw [n1] at z; exact z
    · rw [x2]; rw [x1] at z; exact z
  · exact z.elim
theorem je_din (hu : X.A.units + 64 < cLine) (hb : JE X G b ab) (ha : JE X G a aa) (hmk : behindInMarks .In a = false := by rfl) : JE X G (.Compare b [.In] [a] pos) (aBin (arDinF false) ab aa) := by
  obtain ⟨ta, p1, q1⟩ := ha
  obtain ⟨tb, p2, q2⟩ := hb
  refine ⟨_, pe_cmp (pc_din (by omega) p2 p1) hmk, ⟨fun {ρ Ω Φ} h {P F H σ Q} o rp k => q2.go h o rp fun {v sv Ω1 F1 H1} z1 o1 s1 r1 => q1.go z1 o1 (rpe_same s1 rp) fun {v2 sv2 Ω2 F2 H2} z2 o2 s2 r2 => ?_⟩⟩
  obtain ⟨p, ov, rfl, g, z⟩ := din_ok z2 o2 r2 (r1.same s2)
  exact ⟨p, ov, rfl, g, k z o2 (s1.trans s2) (by cases ov <;> exact .bl _)⟩
theorem je_dnotin (hu : X.A.units + 64 < cLine) (hb : JE X G b ab) (ha : JE X G a aa) (hmk : behindInMarks .NotIn a = false := by rfl) : JE X G (.Compare b [.NotIn] [a] pos) (aBin (arDinF true) ab aa) := by
  obtain ⟨ta, p1, q1⟩ := ha
  obtain ⟨tb, p2, q2⟩ := hb
  refine ⟨_, pe_cmp (pc_dnotin (by omega) p2 p1) hmk, ⟨fun {ρ Ω Φ} h {P F H σ Q} o rp k => q2.go h o rp fun {v sv Ω1 F1 H1} z1 o1 s1 r1 => q1.go z1 o1 (rpe_same s1 rp) fun {v2 sv2 Ω2 F2 H2} z2 o2 s2 r2 => ?_⟩⟩
  obtain ⟨p, ov, rfl, g, z⟩ := din_ok z2 o2 r2 (r1.same s2)
  exact ⟨p, ov, rfl, g, k z o2 (s1.trans s2) (by cases ov <;> exact .bl _)⟩
theorem jt_din (hu : X.A.units + 64 < cLine) (hb : JE X G b ab) (ha : JE X G a aa) (hmk : behindInMarks .In a = false := by rfl) : JT X G (.Compare b [.In] [a] pos) (aB (aBin (arDinF false) ab aa)) := by
  obtain ⟨ta, p1, q1⟩ := ha
  obtain ⟨tb, p2, q2⟩ := hb
  refine ⟨_, pt_cmp (pc_din (by omega) p2 p1) hmk, ⟨fun {ρ Ω Φ} h {P F H σ Q} o rp k => q2.go h o rp fun {v sv Ω1 F1 H1} z1 o1 s1 r1 => q1.go z1 o1 (rpe_same s1 rp) fun {v2 sv2 Ω2 F2 H2} z2 o2 s2 r2 => ?_⟩⟩
  obtain ⟨p, ov, rfl, g, z⟩ := din_ok z2 o2 r2 (r1.same s2)
  exact ⟨p, ov, rfl, g, _, rfl, by cases ov <;> exact k z o2 (s1.trans s2)⟩
theorem jt_dnotin (hu : X.A.units + 64 < cLine) (hb : JE X G b ab) (ha : JE X G a aa) (hmk : behindInMarks .NotIn a = false := by rfl) : JT X G (.Compare b [.NotIn] [a] pos) (aB (aBin (arDinF true) ab aa)) := by
  obtain ⟨ta, p1, q1⟩ := ha
  obtain ⟨tb, p2, q2⟩ := hb
  refine ⟨_, pt_cmp (pc_dnotin (by omega) p2 p1) hmk, ⟨fun {ρ Ω Φ} h {P F H σ Q} o rp k => q2.go h o rp fun {v sv Ω1 F1 H1} z1 o1 s1 r1 => q1.go z1 o1 (rpe_same s1 rp) fun {v2 sv2 Ω2 F2 H2} z2 o2 s2 r2 => ?_⟩⟩
  obtain ⟨p, ov, rfl, g, z⟩ := din_ok z2 o2 r2 (r1.same s2)
  exact ⟨p, ov, rfl, g, _, rfl, by cases ov <;> exact k z o2 (s1.trans s2)⟩
/-- d[k] = x -/
def aDPut (a o i : AE) : AS := fun D ρ Ω => a ρ Ω fun x Ω1 => o ρ Ω1 fun l Ω2 => i ρ Ω2 fun y Ω3 => match l with
  | .r (.ref p) => ∃ kvs f k, At Ω3 p (.dk kvs) f ∧ keyOf y = some k ∧ kvs.length < sizeLine ∧ D.nx ρ (f (.dk (putS kvs k x)))
  | _ => False
theorem js_dput {spos : Pos} (hu : X.A.units + 64 < cLine) (he : JE X G e aa) (ha : JE X G a ab) (hb : JE X G b ac) (hs : swapsWith e (some (.Subscript a b pos)) spos.line X.env = pure false := by rfl) : JS X G (.Assign [.Subscript a b pos] e spos) (aDPut aa ab ac) := by
  obtain ⟨te, p1, q1⟩ := he
  obtain ⟨ta, p2, q2⟩ := ha
  obtain ⟨tb, p3, q3⟩ := hb
  refine ⟨_, ps_dput (by omega) p2 p3 p1 hs, ⟨fun {D ρ Ω} h {P F H σ D'} k o rp => q1.go h o rp fun {v sv Ω1 F1 H1} z1 o1 s1 r1 => q2.go z1 o1 (rpe_same s1 rp) fun {v2 sv2 Ω2 F2 H2} z2 o2 s2 r2 => q3.go z2 o2 (rpe_same (s1.trans s2) rp) fun {v3 sv3 Ω3 F3 H3} z3 o3 s3 r3 => ?_⟩⟩
  have k3 := (s1.trans s2).trans s3
  have r1' := (r1.same s2).same s3
  dsimp only at z3
  split at z3
  · obtain ⟨kvs, f, kk, t, e1, e2, z⟩ := z3
    cases (show v2 = _ from r2)
    obtain ⟨ws, h1, h2⟩ := o3.dk t
    obtain rfl := keyOf_ok e1 r3
    exact ⟨_, _, rfl, DPut.k h1 (by rw [h2.length]; exact e2), k.nx z (o3.put t (rpd_put h2 r1')) k3 (rpe_same k3 rp)⟩
  · exact z3.elim
/-- i & 1 -/
def arAnd : AR := fun x y Ω Φ => match x, y with
  | .d (.int i), .d (.int j) => j = 1 ∧ Φ (.d (.int (i % 2))) Ω
  | _, _ => False
theorem jo_and : JOp X G (binaryOp .BitAnd) arAnd := by
  refine ⟨_, op_andM, ⟨fun {x y Ω Φ} h {P F H vx vy Q} o r1 r2 k => ?_⟩⟩
  unfold arAnd at h
  split at h
  · obtain ⟨rfl, h⟩ := h
    cases dqi r1
    cases dqi r2
    exact ⟨_, 1, rfl, rfl, k h o (Same.refl F) (.int _)⟩
  · exact h.elim
/-! ### displays -/
def aPrs : List (Key × AE) → Rho → Om → (List Ent → Om → Prop) → Prop
  | [], _, Ω, Φ => Φ [] Ω
  | (k, a) :: r, ρ, Ω, Φ => a ρ Ω fun x Ω1 => aPrs r ρ Ω1 fun kvs Ω2 => Φ ((k, x) :: kvs) Ω2
structure SnP (E : En) (trs : List (TE × TE)) (ps : List (Key × AE)) : Prop where
  go : ∀ {ρ : Rho} {Ω : Om} {Φ : List Ent → Om → Prop}, aPrs ps ρ Ω Φ → ∀ {P F H : Hp} {σ : L2.St} {Q : List (V × V) → Hp → Prop}, Ok E P F H Ω → RpE E.K F σ ρ →
    (∀ {ws : List (Key × V)} {kvs : List Ent} {Ω' : Om} {F' H' : Hp}, Φ kvs Ω' → Ok E P F' H' Ω' → Same F F' → RpD E.K F' ws kvs → Q (ws.map fun kv => (kV kv.1, kv.2)) H') → tPairs trs σ H Q
def JP (X : Cx) (G : Gn) (ks : List (Option Expr)) (vs : List Expr) (ps : List (Key × AE)) : Prop := ∃ trs, PPs X pos ks vs trs ∧ SnP (enX X G) trs ps
theorem jp_nil : JP (pos := pos) X G [] [] [] := ⟨_, pps_nil, ⟨fun {ρ Ω Φ} h {P F H σ Q} o rp k => k (ws := []) h o (Same.refl F) .nil⟩⟩
theorem jp_cons {kx : Expr} {ks : List (Option Expr)} {vs : List Expr} {ps : List (Key × AE)} {k : Key} (hk : PE X kx (tC (kV k))) (ha : JE X G e aa) (hr : JP (pos := pos) X G ks vs ps) : JP (pos := pos) X G (some kx :: ks) (e :: vs) ((k, aa) :: ps) := by
  obtain ⟨ta, p1, q1⟩ := ha
  obtain ⟨trs, p2, q2⟩ := hr
  refine ⟨_, pps_cons hk p1 p2, ⟨fun {ρ Ω Φ} h {P F H σ Q} o rp kk => ?_⟩⟩
  refine q1.go h o rp fun {v sv Ω1 F1 H1} z1 o1 s1 r1 => q2.go z1 o1 (rpe_same s1 rp) fun {ws kvs Ω2 F2 H2} z2 o2 s2 r2 => ?_
  exact kk (ws := (k, v) :: ws) z2 o2 (s1.trans s2) (.cons ⟨rfl, r1.same s2⟩ r2)
def aDisp (Fr : Addr → Prop) (ps : List (Key × AE)) : AE := fun ρ Ω Φ => aPrs ps ρ Ω fun kvs Ω' => kvs.length ≤ 15 ∧ ∀ p, Fr p → Φ (.r (.ref p)) ((p, .dk (mergeS [] kvs)) :: Ω')
theorem je_disp {ks : List (Option Expr)} {vs : List Expr} {ps : List (Key × AE)} {Fr : Addr → Prop} (hm : MOk (enX X G) (some Fr)) (h : JP (pos := pos) X G ks vs ps) (h1 : ks.all (·.isSome) = true) (h2 : ks.length = vs.length) (h3 : ks ≠ []) (h4 : ks.length ≤ 15) : JE X G (.Dict ks vs pos) (aDisp Fr ps) := by
  obtain ⟨trs, p1, q1⟩ := h
  refine ⟨_, pe_disp p1 h1 h2 h3 h4, ⟨fun {ρ Ω Φ} h {P F H σ Q} o rp k => fun p hp => ?_⟩⟩
  have nP : P p = none := o.pf.free hp
  have nF : F p = none := o.ex.free hp
  have n0 : (enX X G).H0 p = none := o.dm p hp
  have nP0 : (enX X G).P0 p = none := o.p0.free nP
  refine q1.go h (o.guard (o := .dK []) hp) rp fun {ws kvs Ω' F' H'} z o' s r => ?_
  refine ⟨o'.pf p _ upd_same, ws, rfl, by rw [r.length]; exact z.1, ?_⟩
  have nF' : F' p = none := o'.pF p (by rw [upd_same]; exact fun z => by cases z)
  have o2 := o'.poke (o' := .dK (mergeK [] ws)) nP0 nF' nP
  have o3 := o2.adopt (c := .dk (mergeS [] kvs)) o.p0 nP (rpd_merge r .nil)
  exact k (z.2 p (hm _ rfl p n0)) o3 s rfl
/-- {}, a new one -/
def aDNew (Fr : Addr → Prop) : AE := fun _ Ω Φ => ∀ p, Fr p → Φ (.r (.ref p)) ((p, .dk []) :: Ω)
theorem je_dnew {Fr : Addr → Prop} (hm : MOk (enX X G) (some Fr)) : JE X G (.Dict [] [] pos) (aDNew Fr) :=
  ⟨_, pe_dnewK, ⟨fun {ρ Ω Φ} h {P F H σ Q} o rp k => fun p hp => k (h p (hm _ rfl p (o.dm p hp))) (o.newO (c := .dk []) hp .nil) (Same.refl F) rfl⟩⟩
end
end Z
/-! Zt: x[::-1] of a tuple or a list. -/
namespace Z
open PySem PySem.Spec PyProof.Rows L2 HT
section
variable {prog : Program} {w : World} {A : Around} {E : Value → Shared → Prop} {s : Shared}
theorem sliceApplied_rev {sl : Addr} {t : Tok} {n : Nat} {Q : Int × Int × Nat → Shared → Prop} (hs : s.heap.IsSliceOf sl .none .none (.int (-1) t))
    (h : Q ((n : Int) - 1, -1, n) s) : wpAny (model prog w) A (Builtin.Slice.sliceApplied (.ref sl) (pure (n : Int))) Q E s := by
  obtain ⟨os, hos, hcs, hds⟩ := id hs
  unfold Builtin.Slice.sliceApplied Builtin.Slice.sliceFields
  refine wpAny_bind (wpAny_bind (wpAny_field hos hds (x := .none) rfl (wpAny_bind (wpAny_field hos hds (x := .none) rfl (wpAny_bind (wpAny_field hos hds (x := .int (-1) t) rfl (wpAny_pure ?_)))))))
  refine wpAny_bind (slicePart_int ?_)
  show wpAny _ _ (if ((-1 : Int) == 0) = true then _ else _) _ _ s
  rw [if_neg (by decide)]
  refine wpAny_bind (slicePart_none (wpAny_bind (slicePart_none (wpAny_bind (wpAny_pure ?_)))))
  show wpAny _ _ (match Builtin.Slice.sliceAdjust none none (-1) (n : Int) with | (lo, hi) => pure (lo, (-1 : Int), Builtin.Slice.slicePlaces lo hi (-1))) _ _ s
  have e1 : Builtin.Slice.sliceAdjust none none (-1) (n : Int) = ((n : Int) - 1, -1) := rfl
  rw [e1]
  have e2 : Builtin.Slice.slicePlaces ((n : Int) - 1) (-1) (-1) = n := by
    unfold Builtin.Slice.slicePlaces
    have h1 : ¬ ((-1 : Int) > 0) := by omega
    rw [if_neg h1, show (- -1 : Int) = 1 by decide, Int.ediv_one]
    split <;> omega
  show wpAny _ _ (pure ((n : Int) - 1, (-1 : Int), Builtin.Slice.slicePlaces ((n : Int) - 1) (-1) (-1))) _ _ s
  rw [e2]
  exact wpAny_pure h
theorem pick_rev (xs : Array Value) : ((List.range xs.size).filterMap fun (m : Nat) => xs[(((xs.size : Nat) : Int) - 1 + (m : Int) * -1).toNat]?).toArray = xs.toList.reverse.toArray := by
  have e : (List.range xs.size).filterMap (fun (m : Nat) => xs[(((xs.size : Nat) : Int) - 1 + (m : Int) * -1).toNat]?) = ((List.range xs.size).map fun k => xs.size - 1 - k).filterMap (xs[·]?) := by
    rw [List.filterMap_map]
    have g : ∀ l : List Nat, (∀ m ∈ l, m < xs.size) → l.filterMap (fun (m : Nat) => xs[(((xs.size : Nat) : Int) - 1 + (m : Int) * -1).toNat]?) = l.filterMap ((fun x => xs[x]?) ∘ fun k => xs.size - 1 - k) := by
      intro l
      induction l with
      | nil => intro _; rfl
      | cons m r ih =>
        intro h
        have := h m List.mem_cons_self
        have e : (((xs.size : Nat) : Int) - 1 + (m : Int) * -1).toNat = xs.size - 1 - m := by omega
        rw [List.filterMap_cons, List.filterMap_cons, ih fun x hx => h x (List.mem_cons_of_mem _ hx), e]
        rfl
    exact g _ fun m hm => List.mem_range.mp hm
  rw [e, PySem.W.krv_range, List.filterMap_reverse, PySem.W.krv_all]
theorem getItem_tuple_rev {t sl : Addr} {items : Array Value} {tk : Tok} {Q : Value → Shared → Prop} (ht : IsTup s.heap t items) (hs : s.heap.IsSliceOf sl .none .none (.int (-1) tk))
    (h : Q (.ref s.heap.objs.size) { s with heap := s.heap.push { cls := .type "tuple", data := .seq items.toList.reverse.toArray } })
    (hsz : items.size ≤ sizeLine) : wpAny (model prog w) A (getItem (.ref t) (.ref sl)) Q E s := by
  have htake : sizeOk (.seq items.toList.reverse.toArray) := by
    show items.toList.reverse.toArray.size ≤ sizeLine
    rw [List.size_toArray, List.length_reverse, Array.length_toList]
    omega
  obtain ⟨os, hos, hcs, hds⟩ := id hs
  have hTs : s.TypeIs (.ref sl) "slice" := ⟨os, hos, hcs⟩
  unfold getItem
  try with_reducible refine wpAny_holding ?_
  first | refine wpAny_bind (wpAny_pure ?_) | skip
  refine wpAny_bind (wpAny_sequenceKey ht.typeIs (by decide) ?_)
  refine wpAny_bind (wpAny_callSpecial?_slot (name := Str.ofString "__getitem__") ht.typeIs PyProof.Rows.slot_tuple_getitem
    (wpAny_call_entry PyProof.Rows.slot_tuple_getitem ht.typeIs entry_tuple_getitem ?_ (args_tuple_getitem _ _)))
  show wpAny _ _ (Builtin.Tuple.tupleItemsOf (.ref t) >>= _) _ _ s
  refine wpAny_bind (tupleItemsOf_ ht ?_)
  refine wpAny_bind (wpAny_typeOf hTs ?_)
  rw [if_pos (by decide)]
  refine wpAny_bind (sliceApplied_rev hs ?_)
  have hno : ¬ ((((items.size : Nat) : Int) - 1 == 0 && (-1 : Int) == 1 && items.size == items.size) = true) := by
    intro q
    rw [Bool.and_eq_true, Bool.and_eq_true] at q
    have q1 : (-1 : Int) = 1 := eq_of_beq q.1.2
    omega
  show wpAny _ _ (if (((items.size : Nat) : Int) - 1 == 0 && (-1 : Int) == 1 && items.size == items.size) = true then _ else _) _ _ s
  rw [if_neg hno, pick_rev]
  first
    | exact wpAny_bind (m := Builtin.Tuple.tupleExact _) (wpAny_newObj_type (wpAny_pure ⟨_, rfl, wpAny_pure h⟩) htake)
    | exact wpAny_bind (m := Builtin.Tuple.tupleExact _) (wpAny_newObj_type (wpAny_bind (wpAny_pure (wpAny_pure ⟨_, rfl, wpAny_pure h⟩))) htake)
    | exact wpAny_bind (wpAny_bind (m := Builtin.Tuple.tupleExact _) (wpAny_newObj_type (wpAny_pure (wpAny_pure ⟨_, rfl, wpAny_pure h⟩)) htake))
    | exact wpAny_bind (wpAny_bind (m := Builtin.Tuple.tupleExact _) (wpAny_newObj_type (wpAny_pure ⟨_, rfl, wpAny_pure h⟩) htake))
end
def tRev2 (K : PySem.W.Frag) (te : TE) : TE := fun σ H Q => te σ H fun x H1 =>
  (∃ a xs, x = .ref a ∧ SqL K H1 a xs ∧ ∀ p, H1 p = none → Q (.ref p) (upd H1 p (.lst xs.reverse))) ∨ ∃ a xs, x = .ref a ∧ SqT K H1 a xs ∧ ∀ p, H1 p = none → Q (.ref p) (upd H1 p (.tup xs.reverse))
theorem pe_rev2 {X : Cx} {e : Expr} {te : TE} {k : Nat} {p1 p2 p3 pos : Pos} (he : PE X e te) : PE X (.Subscript e (.Slice none none (some (.UnaryOp .USub (.Constant (.int 1) k p1) p2)) p3) pos) (tRev2 X.K te) := by
  refine ⟨fun pins s σ H Q I h => ?_⟩
  refine Subscript_ (thn (he.run pins s σ H _ I h) fun v s1 ⟨x, H1, I1, r1, q1⟩ => ?_)
  have hst : PO X (some (.UnaryOp .USub (.Constant (.int 1) k p1) p2)) (tPart (tUn (rU fun i => .int (-i)) (tC (.int 1)))) := po_some (pe_un un_neg pe_int)
  refine wpAny_Slice (thn (po_none.run pins s1 σ H1 (fun o H2 => o = none ∧ H2 = H1) I1 ⟨rfl, rfl⟩) fun vl s2 ⟨l, H2, I2, pl, el, e2⟩ => ?_)
  subst el e2
  refine thn (po_none.run pins s2 σ H2 (fun o H3 => o = none ∧ H3 = H2) I2 ⟨rfl, rfl⟩) fun vu s3 ⟨u, H3, I3, pu, eu, e3⟩ => ?_
  subst eu e3
  refine thn (hst.run pins s3 σ H3 (fun o H4 => o = some (-1) ∧ H4 = H3) I3 ⟨1, rfl, -1, rfl, rfl, rfl⟩) fun vs s4 ⟨o, H4, I4, ps, eo, e4⟩ => ?_
  subst eo e4
  have I5 : Inv X pins σ H4 { s4 with heap := s4.heap.push { cls := .type "slice", data := .fields #[vl, vu, vs] } } := I4.kept (t' := s4.toks) fun b ob q => Heap.get?_push_of_some _ q
  rcases q1 with ⟨a, xs, ex, hx, q⟩ | ⟨a, xs, ex, hx, q⟩
  · subst ex
    cases r1
    obtain ⟨its, r, ht, hz⟩ := I5.list hx
    have hlen := r.length
    show wpAny (model X.prog X.w) X.A (subscriptTail e (.Slice none none (some (.UnaryOp .USub (.Constant (.int 1) k p1) p2)) p3) (.ref a) (.ref s4.heap.objs.size)) (EP X pins σ Q) X.xe { s4 with heap := s4.heap.push { cls := .type "slice", data := .fields #[vl, vu, vs] } }
    refine tail_any (ops := [.ref a, .ref s4.heap.objs.size]) ht.isList.typeIs (PySem.slot_list_getitem.lookup) ?_ (by with_unfolding_all rfl)
    refine wpAny_getItem_list_slice ht.isList (Heap.IsSliceOf.new _ vl vu vs) pl pu ps (by decide) ?_ (by rw [List.size_toArray]; omega)
    rw [PySem.W.krv_pick]
    refine ⟨.ref _, _, I5.laid (t' := s4.toks) (o := .lst xs.reverse) (fun b ob q => Heap.get?_push_of_some _ q) (Nat.le_refl _) ?_, rfl, q _ (I5.hok.fresh (Nat.le_refl _))⟩
    exact ⟨by rw [List.length_reverse]; exact hz, _, 0, r.reverse, Heap.get?_push_size _ rfl⟩
  · subst ex
    cases r1
    cases pl
    cases pu
    obtain ⟨tk, rfl⟩ : ∃ tk, vs = .int (-1) tk := by cases ps with | int i t => exact ⟨_, rfl⟩
    obtain ⟨its, r, ht, hz⟩ := I5.tuple hx
    have hlen := r.length
    show wpAny (model X.prog X.w) X.A (subscriptTail e (.Slice none none (some (.UnaryOp .USub (.Constant (.int 1) k p1) p2)) p3) (.ref a) (.ref s4.heap.objs.size)) (EP X pins σ Q) X.xe { s4 with heap := s4.heap.push { cls := .type "slice", data := .fields #[.none, .none, .int (-1) tk] } }
    refine tail_any (ops := [.ref a, .ref s4.heap.objs.size]) ht.typeIs PyProof.Rows.slot_tuple_getitem.lookup ?_ (by with_unfolding_all rfl)
    refine getItem_tuple_rev ht (Heap.IsSliceOf.new _ _ _ _) ?_ (by rw [List.size_toArray]; omega)
    refine ⟨.ref _, _, I5.laid (t' := s4.toks) (o := .tup xs.reverse) (fun b ob q => Heap.get?_push_of_some _ q) (Nat.le_refl _) ?_, rfl, q _ (I5.hok.fresh (Nat.le_refl _))⟩
    exact ⟨by rw [List.length_reverse]; exact hz, _, r.reverse, _, Heap.get?_push_size _ rfl, rfl, 0, rfl⟩
def aRev2 (m : Mode) (a : AE) : AE := fun ρ Ω Φ => a ρ Ω fun x Ω' => match x with
  | .d (.tuple ds) => Φ (.d (.tuple ds.reverse)) Ω'
  | x => rdL x Ω' fun ds => newL m ds.reverse Ω' Φ
theorem je_rev2 {X : Cx} {G : Gn} {e : Expr} {aa : AE} {m : Mode} {k : Nat} {p1 p2 p3 pos : Pos} (hm : MOk (enX X G) m) (ha : JE X G e aa) : JE X G (.Subscript e (.Slice none none (some (.UnaryOp .USub (.Constant (.int 1) k p1) p2)) p3) pos) (aRev2 m aa) := by
  obtain ⟨t, h1, h2⟩ := ha
  refine ⟨_, pe_rev2 h1, ⟨fun {ρ Ω Φ} h {P F H σ Q} o rp k => h2.go h o rp fun {v sv Ω1 F1 H1} q o1 s1 r1 => ?_⟩⟩
  dsimp only at q
  split at q
  · obtain ⟨a, vs, rfl, hs, da⟩ := dqt r1
    refine .inr ⟨a, vs, rfl, sqt_same o1.ex hs, fun p hp => ?_⟩
    obtain ⟨o2, s2⟩ := o1.newF (o := .tup vs.reverse) hp
    exact k q o2 (s1.trans s2) (Dq.tup (SqT.of upd_same) (dqa_same s2 _ _ (dqa_rev da)))
  · obtain ⟨p, vs, ds, rfl, hs, da, q⟩ := rdL_ok q o1 r1
    exact .inl ⟨p, vs, rfl, SqL.of hs, fun z hz => newL_ok hm o1 (dqa_rev da) q (fun q2 o2 s2 r2 => k q2 o2 (s1.trans s2) r2) hz⟩
end Z
namespace Z
open PySem PySem.Spec PyProof.Rows L2
/-! ### a factor that is small -/
abbrev arMulC : AR := arI CMul fun i j => .int (i * j)
theorem jo_mulC {X : Cx} {G : Gn} : JOp X G (binaryOp .Mult) arMulC := ⟨_, op_mul, arI_ok fun _ _ _ => .int _⟩
/-! ### the deck of a law: a dict of a list and two numbers -/
def dkv (g m t : SV) : List Ent := [(.inr "great", g), (.inr "mixed", m), (.inr "turns", t)]
theorem kgm : ((.inr "great" : Key) = .inr "mixed") = False := by simp only [eq_iff_iff, iff_false]; decide +kernel
theorem kgt : ((.inr "great" : Key) = .inr "turns") = False := by simp only [eq_iff_iff, iff_false]; decide +kernel
theorem kmg : ((.inr "mixed" : Key) = .inr "great") = False := by simp only [eq_iff_iff, iff_false]; decide +kernel
theorem kmt : ((.inr "mixed" : Key) = .inr "turns") = False := by simp only [eq_iff_iff, iff_false]; decide +kernel
theorem ktg : ((.inr "turns" : Key) = .inr "great") = False := by simp only [eq_iff_iff, iff_false]; decide +kernel
theorem ktm : ((.inr "turns" : Key) = .inr "mixed") = False := by simp only [eq_iff_iff, iff_false]; decide +kernel
theorem dkv_g {g m t : SV} : valS (dkv g m t) (.inr "great") = some g := by unfold valS dkv; rw [List.find?_cons]; simp
theorem dkv_m {g m t : SV} : valS (dkv g m t) (.inr "mixed") = some m := by unfold valS dkv; rw [List.find?_cons, List.find?_cons]; simp only [kgm, decide_false, decide_true, Option.map_some]
theorem dkv_t {g m t : SV} : valS (dkv g m t) (.inr "turns") = some t := by unfold valS dkv; rw [List.find?_cons, List.find?_cons, List.find?_cons]; simp only [kgt, kmt, decide_false, decide_true, Option.map_some]
theorem dkv_pm {g m t x : SV} : putS (dkv g m t) (.inr "mixed") x = dkv g x t := by
  unfold putS dkv
  simp only [List.any_cons, List.map_cons, List.map_nil, kgm, ktm, decide_false, decide_true, Bool.false_or, Bool.true_or, if_true, if_false]
theorem dkv_pt {g m t x : SV} : putS (dkv g m t) (.inr "turns") x = dkv g m x := by
  unfold putS dkv
  simp only [List.any_cons, List.map_cons, List.map_nil, kgt, kmt, decide_false, decide_true, Bool.false_or, Bool.true_or, if_true, if_false]
theorem dkv_new {g m t : SV} : mergeS [] [(.inr "great", g), (.inr "mixed", m), (.inr "turns", t)] = dkv g m t := by
  unfold mergeS dkv putS
  simp only [List.foldl_cons, List.foldl_nil, List.any_nil, List.any_cons, List.nil_append, List.cons_append, kgm, kgt, kmt, decide_false, Bool.or_false, Bool.false_eq_true, if_false]
structure DeckOk (m t : Int) (is : List Int) : Prop where
  m0 : 0 ≤ m
  m1 : m < 4294967291
  t0 : 0 ≤ t
  i0 : ∀ i ∈ is, 0 ≤ i
  ln : is.length ≤ 63
inductive Deck (x : SV) (L R : Om) : Om → Prop where
  | mk {b c : Addr} {m t : Int} {is : List Int} : x = .r (.ref b) → DeckOk m t is → Deck x L R (L ++ (b, .dk (dkv (.r (.ref c)) (I m) (I t))) :: (c, .lst (isD is)) :: R)
theorem Deck.push {x : SV} {L R Ω : Om} (h : Deck x L R Ω) (p : Addr × OC) : Deck x (p :: L) R (p :: Ω) := by
  obtain ⟨h1, h2⟩ := h
  exact .mk (L := p :: L) h1 h2
theorem Deck.pop {x : SV} {p : Addr × OC} {L R Ω : Om} (h : Deck x (p :: L) R Ω) : ∃ Ω2, Ω = p :: Ω2 ∧ Deck x L R Ω2 := by
  obtain ⟨h1, h2⟩ := h
  exact ⟨_, rfl, .mk h1 h2⟩
inductive DDrawC : Con where
  | mk {x : SV} {below : Int} {L R Ω : Om} {Φ : PhiE} {Ξ : XA} : Deck x L R Ω → 0 < below → below < 2 ^ 240 → (∀ r Ω', 0 ≤ r → r < below → Deck x L R Ω' → Φ (I r) Ω') → DDrawC [x, I below] Ω Φ Ξ
theorem DDrawC.ari : Ari DDrawC 2 := by rintro _ _ _ _ ⟨_, _, _, _⟩; rfl
inductive DPickC : Con where
  | mk {x : SV} {ds : List PyData} {L R Ω : Om} {Φ : PhiE} {Ξ : XA} : Deck x L R Ω → ds ≠ [] → ds.length < 2 ^ 60 → (∀ d ∈ ds, ∀ Ω', Deck x L R Ω' → Φ (.d d) Ω') → DPickC [x, .d (.list ds)] Ω Φ Ξ
theorem DPickC.ari : Ari DPickC 2 := by rintro _ _ _ _ ⟨_, _, _, _⟩; rfl
inductive DeckC (k : Nat) : Con where
  | mk {ns : List Int} {Φ : PhiE} {Ξ : XA} : ScrOk k ns → (∀ x Ω, Deck x [] [] Ω → Φ x Ω) → DeckC k [.l (isD ns)] [] Φ Ξ
theorem DeckC.ari {k : Nat} : Ari (DeckC k) 1 := by rintro _ _ _ _ ⟨_, _⟩; rfl
end Z
namespace Z
theorem len_repD {α : Type} (xs : List α) (k : Int) : (repD xs k).length = k.toNat * xs.length := by
  unfold repD
  rw [List.length_flatten, List.map_replicate, List.sum_replicate_nat]
end Z
/-! Zj: tuple * int of any kind; str(int); max, min of a tuple of ints. -/
namespace Z
open PySem PySem.Spec PyProof.Rows L2
theorem tuple_mulS (l : Addr) (items : Array Value) (n : Nat) (x : Int) (u : Tok) (c0 : (decide (x < -(2 ^ 63)) || decide (x ≥ 2 ^ 63)) = false) (c1 : (items.isEmpty || x == 1) = true) (dd : Option Addr) (sl : Array (Option Value)) :
    Meets (Builtin.«tuple.__mul__» ⟨[.ref l, .int x u], []⟩) (fun _ R s => s.heap.get? l = some { cls := .type "tuple", dict := dd, data := .seq items n, slots := sl } ∧ R (.ok (.ret (Value.ref l))) s) :=
  .of_wp fun prog w A R s h => by
    obtain ⟨hp, g, d, tk, os⟩ := s
    obtain ⟨hl, h⟩ := h
    have f1 := AutoSeq1.idx_int
    wp_walk using wpAny_loadPart' hl
    repeat (first
      | (refine wpAny_ite_false (decide_eq_false (by rw [c0]; exact Bool.false_ne_true)) ?_; wp_walk using wpAny_loadPart' hl)
      | (refine wpAny_ite_true (decide_eq_true (by rw [c1])) ?_; wp_walk using wpAny_loadPart' hl))
    exact ⟨_, rfl, h⟩
theorem tuple_mul0 (l : Addr) (items : Array Value) (n : Nat) (x : Int) (u : Tok) (c0 : (decide (x < -(2 ^ 63)) || decide (x ≥ 2 ^ 63)) = false) (c1 : (items.isEmpty || x == 1) = false) (c2 : (decide (x ≤ 0) || items.isEmpty) = true) (dd : Option Addr) (sl : Array (Option Value)) :
    Meets (Builtin.«tuple.__mul__» ⟨[.ref l, .int x u], []⟩) (fun _ R s => s.heap.get? l = some { cls := .type "tuple", dict := dd, data := .seq items n, slots := sl } ∧
      R (.ok (.ret (Value.ref s.heap.objs.size))) { s with heap := s.heap.push { cls := Value.type "tuple", data := Data.seq #[] }, toks := s.toks }) :=
  .of_wp fun prog w A R s h => by
    obtain ⟨hp, g, d, tk, os⟩ := s
    obtain ⟨hl, h⟩ := h
    have f1 := AutoSeq1.idx_int
    wp_walk using wpAny_loadPart' hl
    repeat (first
      | (refine wpAny_ite_false (decide_eq_false (by rw [c0]; exact Bool.false_ne_true)) ?_; wp_walk using wpAny_loadPart' hl)
      | (refine wpAny_ite_false (decide_eq_false (by rw [c1]; exact Bool.false_ne_true)) ?_; wp_walk using wpAny_loadPart' hl)
      | (refine wpAny_ite_true (decide_eq_true (by rw [c2])) ?_; wp_walk using wpAny_loadPart' hl))
    exact ⟨_, rfl, h⟩
/-! ### max of a tuple of ints -/
section
variable {prog : Program} {w : World} {A : Around} {E : Value → Shared → Prop} {s : Shared} {l : Addr} {xs : Array (Int × Tok)}
theorem max_intTuple {Q : Value → Shared → Prop} (hh : A.handled = none) (hl : s.heap.IsTuple l (intItems xs)) (hne : 0 < xs.size)
    (h : ∀ v h' tk, (intItems xs)[argBest (fun i j => decide (numAt xs i > numAt xs j)) (xs.size - 1)]? = some v → (∀ b o, s.heap.get? b = some o → h'.get? b = some o) → Q v { s with heap := h', toks := tk }) :
    wpAny (model prog w) A (call (.builtin "max") [.ref l]) Q E s := by
  have hlt : l < s.heap.objs.size := by obtain ⟨_, e, _⟩ := hl; exact Heap.lt_size e
  refine call_max_walk (wpAny_pyIter_tuple hl ?_)
  refine ⟨_, _, _, _, _, _, _, rfl, Walks.tuple (A := A.in1) hh _ l (Nat.ne_of_lt hlt) (intItems xs), ⟨⟨_, Heap.get?_push_size _ rfl, rfl, rfl⟩, hl.push _⟩, fun b hb => ?_, by simpa [intItems] using hne,
    CmpOf.ints_gt (numAt xs) (fun _ _ => intItems_at), fun v h' tk hP hk => ?_⟩
  · show b < (s.heap.push _).objs.size
    rw [Heap.size_push]
    rcases List.mem_cons.mp hb with rfl | hb
    · exact Nat.lt_succ_self _
    · rcases List.mem_cons.mp hb with rfl | hb
      · exact Nat.lt_succ_of_lt hlt
      · cases hb
  · refine h v h' tk (by simpa [intItems] using hP) fun b o e => ?_
    refine hk b o (fun hm => ?_) (Heap.get?_push_of_some _ e)
    rcases List.mem_cons.mp hm with e1 | hm
    · exact absurd (e1 ▸ Heap.lt_size e) (Nat.lt_irrefl _)
    · cases hm
theorem max_rawT {its : List Value} {ns : List Int} {Q : Value → Shared → Prop} (hh : A.handled = none) (hl : s.heap.IsTuple l its.toArray) (hi : IntsAre its ns) (hne : 0 < ns.length)
    (h : ∀ h' tk M t', (∀ b o, s.heap.get? b = some o → h'.get? b = some o) → M ∈ ns → (∀ a, a ∈ ns → a ≤ M) → Q (.int M t') { s with heap := h', toks := tk }) : wpAny (model prog w) A (call (.builtin "max") [.ref l]) Q E s := by
  obtain ⟨xs, e⟩ := hi.allInts.items
  have hn : numsOf (intItems xs).toList = ns := by rw [← e]; exact hi.numsOf
  rw [nums_intItems] at hn
  subst hn
  rw [e] at hl
  have hsz : 0 < xs.size := by simpa using hne
  refine max_intTuple hh hl hsz fun v h' tk hv hk => ?_
  obtain ⟨t, rfl⟩ := intItems_at hv
  obtain ⟨h1, h2⟩ := argBest_gt (numAt xs) (xs.size - 1)
  refine h h' tk _ t hk ?_ fun a ha => ?_
  · rw [numAt_eq]; exact PySem.getD_mem (by rw [List.length_map, Array.length_toList]; omega)
  · obtain ⟨j, hj, rfl⟩ := mem_getD ha
    rw [List.length_map, Array.length_toList] at hj
    rw [← numAt_eq]; exact h2 j (by omega)
end
section
variable {X : Cx} {G : Gn} {m : Mode}
theorem cr_maxT (hc : X.calm = true) : CallR X (.builtin "max") (fun vs H Q => ∃ (a : Addr) (ns : List Int), vs = [V.ref a] ∧ SqT X.K H a (ns.map V.int) ∧ 0 < ns.length ∧ ∀ m, m ∈ ns → (∀ y, y ∈ ns → y ≤ m) → Q (.int m) H) := by
  intro pins s σ H vs us Q I r h
  obtain ⟨a, ns, rfl, hs, hne, q⟩ := h
  obtain ⟨its, rv, hl, _⟩ := I.tuple hs
  rw [Vals.ref1 r]
  exact max_rawT (I.ok.hd hc) hl rv.ints hne fun h' tk m t' hk h1 h2 => ⟨.int _, H, I.kept hk, ⟨_, rfl⟩, q m h1 h2⟩
/-- max of a tuple of ints -/
def fMaxT (x : SV) (Ω : Om) (Φ : PhiE) : Prop := match x with
  | .d (.tuple ds) => ∃ ns : List Int, ds = ns.map PyData.int ∧ 0 < ns.length ∧ ∀ m, m ∈ ns → (∀ y, y ∈ ns → y ≤ m) → Φ (.d (.int m)) Ω
  | _ => False
theorem jc_maxT (hc : X.calm = true) : JC X G (.builtin "max") (ac1 fMaxT) := by
  refine ⟨_, cr_maxT hc, ac1_ok fun {x Ω Φ} h {P F H v Q} o r k => ?_⟩
  unfold fMaxT at h
  split at h
  · obtain ⟨ns, rfl, hn, q⟩ := h
    obtain ⟨a, xs, rfl, hF, da⟩ := dqt r
    rw [dqa_ints da] at hF
    exact ⟨a, ns, rfl, sqt_same o.ex hF, hn, fun m h1 h2 => k (q m h1 h2) o (Same.refl F) (.int _)⟩
  · exact h.elim
/-- str of an int -/
def fStrI (x : SV) (Ω : Om) (Φ : PhiE) : Prop := match x with
  | .d (.int i) => i.natAbs.log2 < 1920 ∧ Φ (.d (.str (toString i))) Ω
  | _ => False
theorem jc_strI : JC X G (.type "str") (ac1 fStrI) := by
  refine ⟨_, call_str_int, ac1_ok fun {x Ω Φ} h {P F H v Q} o r k => ?_⟩
  unfold fStrI at h
  split at h
  · cases dqi r; exact ⟨_, rfl, h.1, k h.2 o (Same.refl F) (.str _)⟩
  · exact h.elim
/-! ### tuple == () -/
theorem op_eqNil (hu : X.A.units + 64 < cLine) : OpR X (compareOp .Eq) (fun x y H Q => ∃ a b xs, x = .ref a ∧ y = .ref b ∧ SqT X.K H a xs ∧ SqT X.K H b [] ∧ Q (.bl xs.isEmpty) H) := by
  intro pins s σ H x y v u Q I rx ry h
  obtain ⟨a, b, xs, rfl, rfl, ha, hb, q⟩ := h
  cases rx
  cases ry
  obtain ⟨its, r1, p1, _⟩ := I.tuple ha
  obtain ⟨its2, r2, p2, _⟩ := I.tuple hb
  cases r2
  refine SeqAt.RcAt.tuples (e := fun _ => true) p1 p2 (by omega) (fun j h1 h2 => absurd h2 (Nat.not_lt_zero _)) _ _ _ _ ⟨.bl xs.isEmpty, H, I, ?_, q⟩
  cases r1 <;> rfl
theorem op_neNil (hu : X.A.units + 64 < cLine) : OpR X (compareOp .NotEq) (fun x y H Q => ∃ a b xs, x = .ref a ∧ y = .ref b ∧ SqT X.K H a xs ∧ SqT X.K H b [] ∧ Q (.bl (!xs.isEmpty)) H) := by
  intro pins s σ H x y v u Q I rx ry h
  obtain ⟨a, b, xs, rfl, rfl, ha, hb, q⟩ := h
  cases rx
  cases ry
  obtain ⟨its, r1, p1, _⟩ := I.tuple ha
  obtain ⟨its2, r2, p2, _⟩ := I.tuple hb
  cases r2
  refine SeqAt.RcNeAt.tuples (e := fun _ => true) p1 p2 (by omega) (fun j h1 h2 => absurd h2 (Nat.not_lt_zero _)) _ _ _ _ ⟨.bl (!xs.isEmpty), H, I, ?_, q⟩
  cases r1 <;> rfl
/-- a == (), a != () for a tuple -/
def arEqN : AR := fun x y Ω Φ => match x, y with
  | .d (.tuple xs), .d (.tuple []) => Φ (.d (.bool xs.isEmpty)) Ω
  | _, _ => False
def arNeN : AR := fun x y Ω Φ => match x, y with
  | .d (.tuple xs), .d (.tuple []) => Φ (.d (.bool (!xs.isEmpty))) Ω
  | _, _ => False
theorem dqa_emp {K : Frag} {F : Hp} {vs : List V} {ds : List PyData} (h : DqAll K F vs ds) : vs.isEmpty = ds.isEmpty := by cases h <;> rfl
theorem jo_eqN (hu : X.A.units + 64 < cLine) : JOp X G (compareOp .Eq) arEqN := by
  refine ⟨_, op_eqNil hu, ⟨fun {x y Ω Φ} h {P F H vx vy Q} o r1 r2 k => ?_⟩⟩
  unfold arEqN at h
  split at h
  · obtain ⟨a, vs, rfl, ha, da⟩ := dqt r1
    obtain ⟨b, ws, rfl, hb, db⟩ := dqt r2
    cases db
    exact ⟨a, b, vs, rfl, rfl, sqt_same o.ex ha, sqt_same o.ex hb, k h o (Same.refl F) (by rw [dqa_emp da]; exact .bl _)⟩
  · exact h.elim
theorem jo_neN (hu : X.A.units + 64 < cLine) : JOp X G (compareOp .NotEq) arNeN := by
  refine ⟨_, op_neNil hu, ⟨fun {x y Ω Φ} h {P F H vx vy Q} o r1 r2 k => ?_⟩⟩
  unfold arNeN at h
  split at h
  · obtain ⟨a, vs, rfl, ha, da⟩ := dqt r1
    obtain ⟨b, ws, rfl, hb, db⟩ := dqt r2
    cases db
    exact ⟨a, b, vs, rfl, rfl, sqt_same o.ex ha, sqt_same o.ex hb, k h o (Same.refl F) (by rw [dqa_emp da]; exact .bl _)⟩
  · exact h.elim
end
/-! ### tuple * int, any int to 1000 -/
section
variable {X : Cx} {G : Gn} {m : Mode}
theorem op_repA : OpR X (binaryOp .Mult) (fun x y H Q => ∃ l k xs, x = .ref l ∧ y = .int k ∧ SqT X.K H l xs ∧ -1000 ≤ k ∧ k ≤ 1000 ∧ xs.length ≤ 1000 ∧ ((xs = [] ∨ k = 1) → Q (.ref l) H) ∧ (xs ≠ [] → k ≤ 0 → ∀ p, H p = none → Q (.ref p) (upd H p (.tup []))) ∧
    (xs ≠ [] → 2 ≤ k → ∀ p, H p = none → Q (.ref p) (upd H p (.tup (List.replicate k.toNat xs).flatten)))) := by
  intro pins s σ H x y v u Q I rx ry h
  obtain ⟨l, k, xs, rfl, rfl, hT, h1, h2, hz, q1, q2, q3⟩ := h
  by_cases hb : xs ≠ [] ∧ 2 ≤ k
  · exact op_repT pins s σ H _ _ v u Q I rx ry ⟨l, k, xs, rfl, rfl, hT, hb.1, hb.2, h2, hz, q3 hb.1 hb.2⟩
  cases rx
  obtain ⟨t, rfl⟩ := ry
  obtain ⟨its, r, ⟨⟨cls, dd, data, sl⟩, ho, hc, n, hd⟩, hs⟩ := I.tuple hT
  simp only at hc hd
  subst hc hd
  have c0 : (decide (k < -(2 ^ 63)) || decide (k ≥ 2 ^ 63)) = false := by
    rw [decide_eq_false (by omega), decide_eq_false (by omega)] <;> rfl
  have he : its.toArray.isEmpty = xs.isEmpty := by cases r <;> rfl
  by_cases ha : xs = [] ∨ k = 1
  · have c1 : (its.toArray.isEmpty || k == 1) = true := by
      rw [he]
      rcases ha with rfl | rfl
      · rfl
      · simp
    exact wpAny_binaryOp_repeat_ref (T := "tuple") (U := "int") (by decide) ⟨_, ho, rfl⟩ (fun s' => typeIs_int s' k t) noFill_tuple_mul F.fills_int_mul F.slot_int_rmul repeat_tuple F.slot_int_index.lookup
      (call_meets F.slot_int_rmul (typeIs_int s k t) F.entry_int_rmul (F.args_int_rmul_2 _ _) (int_rmul_tuple k t l its.toArray n dd sl)
        ⟨ho, rfl, ⟨_, ho, rfl⟩, call_meets F.slot_tuple_mul ⟨_, ho, rfl⟩ F.entry_tuple_mul (F.args_tuple_mul_2 _ _) (tuple_mulS l its.toArray n k t c0 c1 dd sl) ⟨ho, ⟨.ref l, H, I, rfl, q1 ha⟩⟩⟩)
  · have hn : xs ≠ [] := fun z => ha (.inl z)
    have hk : k ≤ 0 := by
      have : ¬ 2 ≤ k := fun z => hb ⟨hn, z⟩
      have : k ≠ 1 := fun z => ha (.inr z)
      omega
    have hxe : xs.isEmpty = false := by cases xs with
      | nil => exact absurd rfl hn
      | cons => rfl
    have c1 : (its.toArray.isEmpty || k == 1) = false := by
      rw [he, hxe, Bool.false_or]
      exact beq_eq_false_iff_ne.mpr (by omega)
    have c2 : (decide (k ≤ 0) || its.toArray.isEmpty) = true := by rw [decide_eq_true hk, Bool.true_or]
    refine wpAny_binaryOp_repeat_ref (T := "tuple") (U := "int") (by decide) ⟨_, ho, rfl⟩ (fun s' => typeIs_int s' k t) noFill_tuple_mul F.fills_int_mul F.slot_int_rmul repeat_tuple F.slot_int_index.lookup
      (call_meets F.slot_int_rmul (typeIs_int s k t) F.entry_int_rmul (F.args_int_rmul_2 _ _) (int_rmul_tuple k t l its.toArray n dd sl)
        ⟨ho, rfl, ⟨_, ho, rfl⟩, call_meets F.slot_tuple_mul ⟨_, ho, rfl⟩ F.entry_tuple_mul (F.args_tuple_mul_2 _ _) (tuple_mul0 l its.toArray n k t c0 c1 c2 dd sl) ⟨ho, ?_⟩⟩)
    refine ⟨.ref s.heap.objs.size, _, I.laid (t' := s.toks) (o := .tup []) (fun b ob q => Heap.get?_push_of_some _ q) (Nat.le_refl _) ?_, rfl, q2 hn hk _ (I.hok.fresh (Nat.le_refl _))⟩
    exact ⟨Nat.zero_le _, [], .nil, IsTup.new _ _⟩
def arMulB (m : Mode) : AR := fun x y Ω Φ => match x, y with
  | .d (.tuple ds), .d (.int k) => -1000 ≤ k ∧ k ≤ 1000 ∧ ds.length ≤ 1000 ∧ Φ (.d (.tuple (repD ds k))) Ω
  | x, .d (.int k) => rdL x Ω fun ds => -(2 ^ 63) ≤ k ∧ k < 2 ^ 63 ∧ ds.length * k.toNat ≤ sizeLine ∧ newL m (repD ds k) Ω Φ
  | _, _ => False
theorem repD_nil (k : Int) : repD ([] : List PyData) k = [] := by
  unfold repD
  induction k.toNat with
  | zero => rfl
  | succ n ih => rw [List.replicate_succ, List.flatten_cons, ih]; rfl
theorem jo_mulB (hm : MOk (enX X G) m) : JOp X G (binaryOp .Mult) (arMulB m) := by
  refine ⟨_, OpR.or op_repA op_rep, ⟨fun {x y Ω Φ} h {P F H vx vy Q} o r1 r2 k => ?_⟩⟩
  unfold arMulB at h
  split at h
  · rename_i ds kk
    obtain ⟨p, vs, rfl, hF, da⟩ := dqt r1
    cases dqi r2
    obtain ⟨h1, h2, h3, h4⟩ := h
    refine Or.inl ⟨p, _, vs, rfl, rfl, sqt_same o.ex hF, h1, h2, by rw [dqa_len da]; exact h3, fun z => ?_, fun z1 z2 q hq => ?_, fun z1 z2 q hq => ?_⟩
    · refine k h4 o (Same.refl F) ?_
      have e : repD ds kk = ds := by
        rcases z with z | z
        · subst z
          cases da
          exact repD_nil _
        · subst z
          show (List.replicate 1 ds).flatten = ds
          rw [List.replicate_succ, List.flatten_cons]
          simp
      rw [e]
      exact r1
    · obtain ⟨o1, s1⟩ := o.newF (o := .tup []) hq
      have e : repD ds kk = [] := by
        unfold repD
        rw [show kk.toNat = 0 from by omega]
        rfl
      rw [e] at h4
      exact k h4 o1 s1 (Dq.tup (Or.inl (Or.inl upd_same)) .nil)
    · obtain ⟨o1, s1⟩ := o.newF (o := .tup (List.replicate _ vs).flatten) hq
      exact k h4 o1 s1 (Dq.tup (Or.inl (Or.inl upd_same)) (dqa_same s1 _ _ (dqa_rep da _)))
  · rename_i k' _
    obtain ⟨p, vs, ds, rfl, hs, da, h1, h2, h3, h4⟩ := rdL_ok h o r1
    cases dqi r2
    refine Or.inr ⟨p, _, vs, rfl, rfl, hs, h1, h2, by rw [dqa_len da]; exact h3, fun q hq => newL_ok hm o (dqa_rep da _) h4 k hq⟩
  · exact h.elim
end
/-! ### repr of data with dicts and no list -/
section
variable {X : Cx} {pins : List (Addr × Obj)} {σ : L2.St} {H : Hp} {s : Shared}
theorem key_reads {P : Program} {w : World} {h : Heap} (k : Key) (key : Value) (e : (mixKind P w).is k key = true) : Reads h key (keyD k) [] := by
  rw [mixKind_is] at e
  rcases keyIs_shape e with ⟨i, t, rfl, rfl⟩ | ⟨x, t, rfl, rfl⟩
  · exact Reads.int i t
  · exact Reads.str x t
mutual
theorem Dq.readsN (I : Inv X pins σ H s) : ∀ (d : PyData) (v : V) (u : Value), Dq X.K H v d → RelV v u → hasList d = false → ∃ as, Reads s.heap u d as ∧ sysModules ∉ as
  | .none, _, _, h, r, _ => by
    cases h
    cases r
    exact ⟨_, Reads.none, List.not_mem_nil⟩
  | .bool b, _, _, h, r, _ => by
    cases h
    cases r
    exact ⟨_, Reads.bool b, List.not_mem_nil⟩
  | .int i, _, _, h, r, _ => by
    cases h
    obtain ⟨t, rfl⟩ := r
    exact ⟨_, Reads.int i t, List.not_mem_nil⟩
  | .str x, _, _, h, r, _ => by
    cases h
    obtain ⟨t, rfl⟩ := r
    exact ⟨_, Reads.str x t, List.not_mem_nil⟩
  | .list ds, _, _, _, _, n => by simp [hasList] at n
  | .tuple ds, _, _, h, r, n => by
    cases h with
    | tup hs ha =>
      cases r
      obtain ⟨its, rv, ⟨o, ho, hc, n', hd⟩, _⟩ := I.tuple hs
      obtain ⟨as, hr, hm⟩ := DqAll.readsN I ds _ its ha rv (by rw [hasList] at n; exact n)
      exact ⟨_, Reads.tuple ho hc hd hr, hm⟩
  | .dict ds, _, _, h, r, n => by
    cases h with
    | dct hs ha =>
      cases r
      obtain ⟨z, hd, vs, rel, dd⟩ := dk_of I.hok hs
      obtain ⟨bs, hr, hm⟩ := DqKv.readsN I ds _ vs ha rel (by rw [hasList] at n; exact n)
      refine ⟨_, PyProof.V.reads_dictOf (fun k key e => key_reads k key e) dd hr, fun q => ?_⟩
      rcases List.mem_cons.mp q with q | q
      · rw [← q] at hd; exact absurd hd (by simp)
      · exact hm q
theorem DqAll.readsN (I : Inv X pins σ H s) : ∀ (ds : List PyData) (vs : List V) (us : List Value), DqAll X.K H vs ds → Vals vs us → hasListAll ds = false → ∃ as, ReadsAll s.heap us ds as ∧ sysModules ∉ as
  | [], _, _, h, r, _ => by
    cases h
    cases r
    exact ⟨_, ReadsAll.nil, List.not_mem_nil⟩
  | d :: ds, _, _, h, r, n => by
    rw [hasListAll, Bool.or_eq_false_iff] at n
    cases h with
    | cons h1 h2 =>
      cases r with
      | cons r1 r2 =>
        obtain ⟨as, x1, x2⟩ := Dq.readsN I d _ _ h1 r1 n.1
        obtain ⟨bs, y1, y2⟩ := DqAll.readsN I ds _ _ h2 r2 n.2
        exact ⟨_, ReadsAll.cons x1 y1, fun q => (List.mem_append.mp q).elim x2 y2⟩
theorem DqKv.readsN (I : Inv X pins σ H s) : ∀ (ds : List (PyData × PyData)) (kvs : List (Key × V)) (vs : List (Key × Value)), DqKv X.K H kvs ds → KV kvs vs → hasListKv ds = false → ∃ as, PyProof.V.PairsRead s.heap keyD vs ds as ∧ sysModules ∉ as
  | [], _, _, h, r, _ => by
    cases h
    cases r
    exact ⟨_, .nil, List.not_mem_nil⟩
  | (k, d) :: ds, _, _, h, r, n => by
    rw [hasListKv, Bool.or_eq_false_iff] at n
    cases h with
    | cons h1 h2 =>
      cases r with
      | @cons _ q _ _ r1 r2 =>
        obtain ⟨qk, qv⟩ := q
        obtain ⟨e, r1⟩ := r1
        cases (show _ = qk from e)
        obtain ⟨as, x1, x2⟩ := Dq.readsN I d _ _ h1 r1 n.1
        obtain ⟨bs, y1, y2⟩ := DqKv.readsN I ds _ _ h2 r2 n.2
        exact ⟨_, .cons x1 y1, fun q => (List.mem_append.mp q).elim x2 y2⟩
end
theorem call_reprN (hu : X.A.units + 64 < cLine) (hgd : X.A.guards = some []) : CallR X (.builtin "repr") (fun xs H Q => ∃ v d, xs = [v] ∧ Dq X.K H v d ∧ hasList d = false ∧ d.showable = true ∧ d.depth ≤ 60 ∧ d.shown.length ≤ sizeLine ∧ Q (.str d.shown) H) := by
  intro pins s σ H xs us Q I r h
  obtain ⟨v, d, rfl, hd, h2, h1, h3, h4, q⟩ := h
  obtain ⟨u, rfl, ru⟩ := vals1 r
  have big : ∀ {p : Addr} {as : List Addr}, Reads s.heap (.ref p) d as → sysModules ∉ as → u = .ref p → wpAny (model X.prog X.w) X.A (call (.builtin "repr") [u]) (EP X pins σ Q) X.xe s := fun {p as} rd nm e => by
    rw [e]
    exact repr_of_reads' rd h1 (fun _ => nm) hgd (by omega) (fun _ _ e => e) (fun h' u tk hk => ⟨.str d.shown, H, I.kept hk, ⟨_, rfl⟩, q⟩) h4
  cases d with
  | none =>
    cases hd
    cases ru
    exact PySem.P.repr_of_none ⟨.str _, H, I.tok _, ⟨_, rfl⟩, by simpa only [PyData.shown] using q⟩
  | bool b =>
    cases hd
    cases ru
    exact PySem.P.repr_of_bool ⟨.str _, H, I.tok _, ⟨_, rfl⟩, by simpa only [PyData.shown] using q⟩
  | int i =>
    cases hd
    obtain ⟨t, rfl⟩ := ru
    exact PySem.P.repr_of_int (by simpa [PyData.showable] using h1) ⟨.str _, H, I.tok _, ⟨_, rfl⟩, by simpa only [PyData.shown] using q⟩
  | str x =>
    cases hd
    obtain ⟨t, rfl⟩ := ru
    exact PySem.P.repr_of_str ⟨.str _, H, I.tok _, ⟨_, rfl⟩, by simpa only [PyData.shown] using q⟩ (by simpa only [PyData.shown] using h4)
  | list ds => simp [hasList] at h2
  | tuple ds =>
    obtain ⟨as, rd, nm⟩ := Dq.readsN I _ v u hd ru h2
    cases hd with
    | tup _ _ => cases ru; exact big rd nm rfl
  | dict kvs =>
    obtain ⟨as, rd, nm⟩ := Dq.readsN I _ v u hd ru h2
    cases hd with
    | dct _ _ => cases ru; exact big rd nm rfl
end
section
variable {X : Cx} {G : Gn} {m : Mode}
/-- repr of data that has no dict or no list in it -/
def fReprD (x : SV) (Ω : Om) (Φ : PhiE) : Prop := rdD x Ω fun d => (d.hasDict = false ∨ hasList d = false) ∧ d.showable = true ∧ d.depth ≤ 60 ∧ d.shown.length ≤ sizeLine ∧ Φ (.d (.str d.shown)) Ω
theorem callR_or {f : Value} {r r' : List V → Hp → VK → Prop} (h : CallR X f r) (h' : CallR X f r') : CallR X f (fun vs H Q => r vs H Q ∨ r' vs H Q) := by
  intro pins s σ H vs us Q I rl q
  rcases q with q | q
  · exact h pins s σ H vs us Q I rl q
  · exact h' pins s σ H vs us Q I rl q
theorem jc_reprD (hu : X.A.units + 64 < cLine) (hgd : X.A.guards = some []) : JC X G (.builtin "repr") (ac1 fReprD) := by
  refine ⟨_, callR_or (call_reprD hu hgd) (call_reprN hu hgd), ac1_ok fun {x Ω Φ} h {P F H v Q} o r k => ?_⟩
  obtain ⟨d, hd, hq, hh, h1, h3, h4, q⟩ := rdD_ok2 h o r
  rcases hh with hh | hh
  · exact .inl ⟨v, d, rfl, hd hh, h1, hh, h3, h4, k q o (Same.refl F) (.str _)⟩
  · exact .inr ⟨v, d, rfl, hq hh, hh, h1, h3, h4, k q o (Same.refl F) (.str _)⟩
/-! ### dict displays as data -/
def kvD (kvs : List Ent) : Option (List (PyData × PyData)) := match kvs with
  | [] => some []
  | (k, .d x) :: r => (kvD r).map fun ds => (keyD k, x) :: ds
  | _ => none
theorem kvD_ok {K : Frag} {F : Hp} : ∀ {kvs : List Ent} {ws : List (Key × V)} {ds : List (PyData × PyData)}, kvD kvs = some ds → RpD K F ws kvs → DqKv K F ws ds
  | [], _, ds, e, r => by
    cases r
    simp [kvD] at e
    subst e
    exact .nil
  | (k, .d x) :: kvs, _, ds, e, r => by
    cases r with
    | @cons w _ ws _ r1 r2 =>
      obtain ⟨wk, wv⟩ := w
      cases (show wk = k from r1.1)
      simp only [kvD, Option.map_eq_some_iff] at e
      obtain ⟨es, e1, rfl⟩ := e
      exact .cons r1.2 (kvD_ok e1 r2)
  | (k, .l x) :: kvs, _, ds, e, r => by simp [kvD] at e
  | (k, .r x) :: kvs, _, ds, e, r => by simp [kvD] at e
variable {e a b : Expr} {aa ab ac : AE} {pos : Pos}
/-- {..} of at most one pair (so that no key comes twice), as data -/
def aDispD (ps : List (Key × AE)) : AE := fun ρ Ω Φ => aPrs ps ρ Ω fun kvs Ω' => kvs.length ≤ 1 ∧ (match kvD kvs with | some ds => Φ (.d (.dict ds)) Ω' | none => False)
theorem mergeK_one {ws : List (Key × V)} (h : ws.length ≤ 1) : mergeK [] ws = ws := by
  match ws, h with
  | [], _ => rfl
  | [p], _ => rfl
theorem je_dispD {ks : List (Option Expr)} {vs : List Expr} {ps : List (Key × AE)} (h : JP (pos := pos) X G ks vs ps) (h1 : ks.all (·.isSome) = true) (h2 : ks.length = vs.length) (h3 : ks ≠ []) (h4 : ks.length ≤ 15) : JE X G (.Dict ks vs pos) (aDispD ps) := by
  obtain ⟨trs, p1, q1⟩ := h
  refine ⟨_, pe_disp p1 h1 h2 h3 h4, ⟨fun {ρ Ω Φ} h {P F H σ Q} o rp k => fun p hp => ?_⟩⟩
  have nP : P p = none := o.pf.free hp
  have nF : F p = none := o.ex.free hp
  have n0 : (enX X G).H0 p = none := o.dm p hp
  have nP0 : (enX X G).P0 p = none := o.p0.free nP
  refine q1.go h (o.guard (o := .dK []) hp) rp fun {ws kvs Ω' F' H'} z o' s r => ?_
  refine ⟨o'.pf p _ upd_same, ws, rfl, by rw [r.length]; exact Nat.le_trans z.1 (by decide), ?_⟩
  have nF' : F' p = none := o'.pF p (by rw [upd_same]; exact fun z => by cases z)
  have o2 := o'.poke (o' := .dK (mergeK [] ws)) nP0 nF' nP
  obtain ⟨o3, s3⟩ := o2.adoptF o.p0 nP n0
  obtain ⟨z1, z2⟩ := z
  split at z2
  · rename_i ds e
    refine k z2 o3 (s.trans s3) (Dq.dct (kvs := ws) ?_ (dqkv_same s3 _ _ (kvD_ok e r)))
    rw [upd_same, mergeK_one (by rw [r.length]; exact z1)]
  · exact z2.elim
/-- {} as data -/
def aDNewD : AE := fun _ Ω Φ => Φ (.d (.dict [])) Ω
theorem je_dnewD : JE X G (.Dict [] [] pos) aDNewD :=
  ⟨_, pe_dnewK, ⟨fun {ρ Ω Φ} h {P F H σ Q} o rp k => fun p hp => by
    obtain ⟨o1, s1⟩ := o.newF (o := .dK []) hp
    exact k h o1 s1 (Dq.dct upd_same .nil)⟩⟩
end
end Z
/-! Zl: powers of great ints. -/
namespace Z
open PySem PySem.Spec PyProof.Rows L2
def CPowX (i j : Int) : Prop := 0 ≤ j ∧ (Builtin.Int.intBits i : Int) * j ≤ 134217728
theorem op_powX {X : Cx} : OpR X (binaryOp .Pow) (rI CPowX fun i j => .int (i ^ j.toNat)) := opI fun _ _ _ _ _ _ _ hc q => pow_int hc.1 hc.2 q
abbrev arPowX : AR := arI CPowX fun i j => .int (i ^ j.toNat)
theorem jo_powX {X : Cx} {G : Gn} : JOp X G (binaryOp .Pow) arPowX := ⟨_, op_powX, arI_ok fun _ _ _ => .int _⟩
end Z
namespace KK
open PySem PySem.Spec PyProof.Rows L2 Z
structure Cls where
  BaseError : Addr
  Unfit : Addr
  TooMany : Addr
  BadText : Addr
  BadWord : Addr
  BadLog : Addr
  Refused : Addr
  NothingToUndo : Addr
  NothingToRedo : Addr
  NoName : Addr
  NoVersion : Addr
end KK
/-! M91: the plain law of units. -/
namespace KK
open PySem PySem.Spec PyProof.Rows L2 Z
structure Fx (x y : Int) : Prop where
  y0 : 1 ≤ y
  y1 : y ≤ 100
  x0 : 1 ≤ x
  x1 : x ≤ y
/-! ### bounds of big ints -/
@[irreducible] def B9 : Int := 2 ^ 8000
theorem b9_le {k : Nat} (h : k ≤ 8000) : (2 : Int) ^ k ≤ B9 := by
  have e : ((2 ^ k : Nat) : Int) = 2 ^ k := by simp
  have e2 : ((2 ^ 8000 : Nat) : Int) = 2 ^ 8000 := Int.natCast_pow 2 8000
  unfold B9
  rw [← e, ← e2]
  exact Int.ofNat_le.mpr (Nat.pow_le_pow_right (by decide) h)
theorem b9_nat {b : Int} (h0 : 0 ≤ b) (h : b ≤ B9) : b.natAbs < 2 ^ 8001 := by
  have e2 : ((2 ^ 8000 : Nat) : Int) = 2 ^ 8000 := Int.natCast_pow 2 8000
  unfold B9 at h
  rw [← e2] at h
  have h1 : b.natAbs ≤ 2 ^ 8000 := Int.ofNat_le.mp (by rw [Int.natAbs_of_nonneg h0]; exact h)
  exact Nat.lt_of_le_of_lt h1 (Nat.pow_lt_pow_right (by decide) (by decide))
theorem b9_log {b : Int} (h0 : 0 ≤ b) (h : b ≤ B9) : b.natAbs.log2 < 9000 := by
  have := log2_lt (b9_nat h0 h) (by decide)
  omega
theorem b9_mul {a b : Int} (a0 : 0 ≤ a) (a1 : a ≤ B9) (b0 : 0 ≤ b) (b1 : b ≤ B9) : CMulX a b := mulx_ok (b9_nat a0 a1) (b9_nat b0 b1) (by decide)
theorem b9_sm {a : Int} (h : a ≤ 2 ^ 240) : a ≤ B9 := Int.le_trans h (b9_le (by decide))
theorem div_is {x c n : Int} (hx : 0 < x) (h1 : x * c ≤ n) (h2 : n < x * c + x) : n / x = c := by
  have l1 : c ≤ n / x := Int.le_ediv_of_mul_le hx (by rw [Int.mul_comm]; exact h1)
  have l2 : n / x < c + 1 := Int.ediv_lt_of_lt_mul hx (by rw [Int.add_mul, Int.one_mul, Int.mul_comm]; exact h2)
  omega
def cl (x y : Int) : Int := -(-y / x)
theorem cl_m {x y : Int} (hx : 0 < x) : x * cl x y - y = (-y) % x := by
  have := Int.mul_ediv_add_emod (-y) x
  unfold cl
  rw [Int.mul_neg]
  omega
theorem cl_law {x y : Int} (hx : 0 < x) : (y + x - 1) / x = cl x y := by
  have m := cl_m (y := y) hx
  have m0 := Int.emod_nonneg (-y) (show x ≠ 0 by omega)
  have m1 := Int.emod_lt_of_pos (-y) hx
  exact div_is hx (by omega) (by omega)
theorem cl_b {x y : Int} (hx : 0 < x) (hy : 0 < y) : 1 ≤ cl x y ∧ cl x y ≤ y := by
  have m := cl_m (y := y) hx
  have m0 := Int.emod_nonneg (-y) (show x ≠ 0 by omega)
  have m1 := Int.emod_lt_of_pos (-y) hx
  refine ⟨?_, ?_⟩
  · have : 0 < x * cl x y := by omega
    rcases Int.lt_or_le 0 (cl x y) with z | z
    · omega
    · have := Int.mul_nonpos_of_nonneg_of_nonpos (show 0 ≤ x by omega) z
      omega
  · rcases Int.lt_or_le y (cl x y) with z | z
    · have k : x * (y + 1) ≤ x * cl x y := Int.mul_le_mul_of_nonneg_left (by omega) (by omega)
      have k2 : 1 * y ≤ x * y := Int.mul_le_mul_of_nonneg_right (by omega) (by omega)
      rw [Int.mul_add, Int.mul_one] at k
      omega
    · exact z
theorem cl_next {x y : Int} (hx : 0 < x) : 0 ≤ x * cl x y - y ∧ x * cl x y - y < x := by
  rw [cl_m hx]
  exact ⟨Int.emod_nonneg (-y) (show x ≠ 0 by omega), Int.emod_lt_of_pos (-y) hx⟩
/-! ### great bounds -/
@[irreducible] def Mx : Int := 10 ^ 160
theorem mx_lo : (10 : Int) ^ 41 ≤ Mx := by unfold Mx; decide +kernel
theorem mx_hi : Mx ≤ 2 ^ 540 := by unfold Mx; decide +kernel
@[irreducible] def BK : Nat := 2 ^ 20000
def Bg (a : Int) : Prop := a.natAbs < BK
theorem bg_mul {a b : Int} (h : Bg a) (h' : Bg b) : CMulX a b := by
  unfold Bg BK at h h'
  exact mulx_ok h h' (by decide)
theorem bg_le {a : Int} {k : Nat} (h : a.natAbs ≤ 2 ^ k) (hk : k < 20000) : Bg a := by
  unfold Bg BK
  exact Nat.lt_of_le_of_lt h (Nat.pow_lt_pow_right (by decide) hk)
theorem bg_i {a : Int} {k : Nat} (h0 : 0 ≤ a) (h : a ≤ 2 ^ k) (hk : k < 20000) : Bg a := by
  refine bg_le (k := k) ?_ hk
  have e : ((2 ^ k : Nat) : Int) = 2 ^ k := by simp
  omega
theorem bg_mono {a b : Int} (h0 : 0 ≤ a) (h : a ≤ b) (hb : Bg b) : Bg a := by
  unfold Bg at *
  omega
theorem bg_neg {a : Int} (h : Bg a) : Bg (-a) := by
  unfold Bg at *
  rwa [Int.natAbs_neg]
theorem bg_b9 {a : Int} (h0 : 0 ≤ a) (h : a ≤ B9) : Bg a := by
  unfold B9 at h
  exact bg_i h0 h (by decide)
theorem mx_b9 : Mx ≤ B9 := Int.le_trans mx_hi (b9_le (by decide))
theorem bg_mx {a : Int} (h0 : 0 ≤ a) (h : a ≤ Mx) : Bg a := bg_b9 h0 (Int.le_trans h mx_b9)
/-! ### sums of units -/
def vl : List Int → Int × Int
  | [] => (0, 1)
  | i :: r => ((vl r).2 + i * (vl r).1, i * (vl r).2)
theorem vl_perm {l m : List Int} (h : l.Perm m) : vl l = vl m := by
  induction h with
  | nil => rfl
  | cons a _ ih => simp only [vl, ih]
  | swap a b l =>
    simp only [vl]
    rw [Prod.mk.injEq]
    refine ⟨?_, Int.mul_left_comm ..⟩
    rw [Int.mul_add, Int.mul_add, Int.mul_left_comm b a]
    omega
  | trans _ _ h1 h2 => rw [h1, h2]
theorem vl_pos : ∀ {is : List Int}, (∀ i ∈ is, 1 ≤ i) → 0 ≤ (vl is).1 ∧ 1 ≤ (vl is).2
  | [], _ => by simp [vl]
  | i :: r, h => by
    obtain ⟨h1, h2⟩ := vl_pos (is := r) fun j hj => h j (List.mem_cons_of_mem _ hj)
    have a := h i List.mem_cons_self
    have k1 := Int.mul_nonneg (show 0 ≤ i by omega) h1
    have k2 := Int.mul_pos (show 0 < i by omega) (show 0 < (vl r).2 by omega)
    simp only [vl]
    omega
theorem vl_p1 {is : List Int} (h : ∀ i ∈ is, 1 ≤ i) (ne : is ≠ []) : 1 ≤ (vl is).1 := by
  cases is with
  | nil => exact absurd rfl ne
  | cons i r =>
    obtain ⟨h1, h2⟩ := vl_pos (is := r) fun j hj => h j (List.mem_cons_of_mem _ hj)
    have a := h i List.mem_cons_self
    have k1 := Int.mul_nonneg (show 0 ≤ i by omega) h1
    simp only [vl]
    omega
theorem vl_b : ∀ {is : List Int}, (∀ i ∈ is, 1 ≤ i ∧ i ≤ 2 ^ 541) → (vl is).1 ≤ 2 ^ (542 * is.length) ∧ (vl is).2 ≤ 2 ^ (541 * is.length)
  | [], _ => by simp [vl]
  | i :: r, h => by
    have hr := fun j hj => h j (List.mem_cons_of_mem i hj)
    obtain ⟨h1, h2⟩ := vl_b (is := r) hr
    obtain ⟨p1, p2⟩ := vl_pos (is := r) fun j hj => (hr j hj).1
    obtain ⟨a1, a2⟩ := h i List.mem_cons_self
    have k1 : i * (vl r).1 ≤ 2 ^ 541 * 2 ^ (542 * r.length) := Int.mul_le_mul a2 h1 p1 (by decide)
    have k2 : i * (vl r).2 ≤ 2 ^ 541 * 2 ^ (541 * r.length) := Int.mul_le_mul a2 h2 (by omega) (by decide)
    have e1 : (2 : Int) ^ (542 * (r.length + 1)) = 2 * (2 ^ 541 * 2 ^ (542 * r.length)) := by
      rw [show 542 * (r.length + 1) = 1 + (541 + 542 * r.length) by omega, Int.pow_add, Int.pow_add]
      rfl
    have e2 : (2 : Int) ^ (541 * (r.length + 1)) = 2 ^ 541 * 2 ^ (541 * r.length) := by
      rw [show 541 * (r.length + 1) = 541 + 541 * r.length by omega, Int.pow_add]
    have k3 : (2 : Int) ^ (541 * r.length) ≤ 2 ^ (542 * r.length) := by
      have e : ((2 ^ (541 * r.length) : Nat) : Int) = 2 ^ (541 * r.length) := by simp
      have e' : ((2 ^ (542 * r.length) : Nat) : Int) = 2 ^ (542 * r.length) := by simp
      rw [← e, ← e']
      exact Int.ofNat_le.mpr (Nat.pow_le_pow_right (by decide) (by omega))
    have k4 : (1 : Int) * 2 ^ (542 * r.length) ≤ 2 ^ 541 * 2 ^ (542 * r.length) := Int.mul_le_mul_of_nonneg_right (by decide) (Int.le_of_lt (Int.pow_pos (by decide)))
    simp only [vl, List.length_cons, e1, e2]
    omega
def lv (is : List Int) : Int × Int := least (vl is).1 (vl is).2
structure Uv (is : List Int) : Prop where
  n : is.length ≤ 21
  i : ∀ i ∈ is, 1 ≤ i ∧ i ≤ Mx
theorem Uv.one {is : List Int} (h : Uv is) : ∀ i ∈ is, 1 ≤ i := fun i hi => (h.i i hi).1
theorem Uv.bg {is : List Int} (h : Uv is) : Bg (vl is).1 ∧ Bg (vl is).2 := by
  have b := vl_b (is := is) fun i hi => ⟨(h.i i hi).1, Int.le_trans (h.i i hi).2 (Int.le_trans mx_hi (by decide +kernel))⟩
  have p := vl_pos h.one
  have n := h.n
  exact ⟨bg_i p.1 b.1 (by omega), bg_i (by omega) b.2 (by omega)⟩
theorem lv_pos {is : List Int} (h : ∀ i ∈ is, 1 ≤ i) : 0 ≤ (lv is).1 ∧ 1 ≤ (lv is).2 ∧ Nat.gcd (lv is).1.natAbs (lv is).2.natAbs = 1 := by
  have p := vl_pos h
  have r := least_rng p.1 (show 0 < (vl is).2 by omega)
  exact ⟨r.1, r.2.2.1, least_co (by omega)⟩
theorem Uv.lbg {is : List Int} (h : Uv is) : Bg (lv is).1 ∧ Bg (lv is).2 := by
  have p := vl_pos h.one
  have r := least_rng p.1 (show 0 < (vl is).2 by omega)
  have b := h.bg
  exact ⟨bg_mono r.1 r.2.1 b.1, bg_mono (Int.le_trans (by decide) r.2.2.1) r.2.2.2.1 b.2⟩
theorem lv_perm {l m : List Int} (h : l.Perm m) : lv l = lv m := by unfold lv; rw [vl_perm h]
theorem snoc_perm (is : List Int) (u : Int) : (is ++ [u]).Perm (u :: is) := List.perm_append_comm (l₁ := is) (l₂ := [u])
theorem lv_cross {is : List Int} (h : ∀ i ∈ is, 1 ≤ i) : (lv is).1 * (vl is).2 = (vl is).1 * (lv is).2 := least_cross (by have := (vl_pos h).2; omega)
theorem lv_cons {is : List Int} {u : Int} (h : ∀ i ∈ is, 1 ≤ i) (hu : 1 ≤ u) : least ((lv is).1 * u + (lv is).2) ((lv is).2 * u) = lv (u :: is) := by
  have p := vl_pos h
  have c := lv_cross h
  have l := lv_pos h
  have p2 := vl_pos (is := u :: is) fun i hi => (List.mem_cons.mp hi).elim (fun e => e ▸ hu) (h i)
  refine least_eq (by have := Int.mul_nonneg l.1 (show 0 ≤ u by omega); omega) (Int.mul_pos (by omega) (by omega)) p2.1 (by omega) ?_
  simp only [vl]
  generalize (lv is).1 = a at *
  generalize (lv is).2 = b at *
  generalize (vl is).1 = A at *
  generalize (vl is).2 = B at *
  have e1 : (a * u + b) * (u * B) = u * u * (a * B) + B * (b * u) := by
    rw [Int.add_mul]
    congr 1
    · rw [Int.mul_assoc, Int.mul_left_comm a, Int.mul_left_comm a, Int.mul_assoc]
    · rw [Int.mul_comm u B, Int.mul_left_comm]
  have e2 : (B + u * A) * (b * u) = u * u * (A * b) + B * (b * u) := by
    rw [Int.add_mul, Int.add_comm]
    congr 1
    rw [Int.mul_comm b u, Int.mul_assoc, Int.mul_left_comm A, Int.mul_assoc]
  rw [e1, e2, c]
theorem lv_snoc {is : List Int} {u : Int} (h : ∀ i ∈ is, 1 ≤ i) (hu : 1 ≤ u) : least ((lv is).1 * u + (lv is).2) ((lv is).2 * u) = lv (is ++ [u]) := by
  rw [lv_cons h hu]
  exact (lv_perm (snoc_perm is u)).symm
theorem lv_snoc2 {is : List Int} {u : Int} (h : ∀ i ∈ is, 1 ≤ i) (hu : 1 ≤ u) : least ((lv is).1 * u + 1 * (lv is).2) ((lv is).2 * u) = lv (is ++ [u]) := by
  rw [Int.one_mul]
  exact lv_snoc h hu
theorem lv_less {is er : List Int} {u : Int} (h : ∀ i ∈ is, 1 ≤ i) (pe : is.Perm (u :: er)) : 0 ≤ (lv is).1 * u + -1 * (lv is).2 ∧ least ((lv is).1 * u + -1 * (lv is).2) ((lv is).2 * u) = lv er := by
  have he : ∀ i ∈ er, 1 ≤ i := fun i hi => h i (pe.mem_iff.mpr (List.mem_cons_of_mem _ hi))
  have hu : 1 ≤ u := h u (pe.mem_iff.mpr List.mem_cons_self)
  have p := vl_pos he
  have c := lv_cross h
  have l := lv_pos h
  have v : vl is = ((vl er).2 + u * (vl er).1, u * (vl er).2) := vl_perm pe
  rw [v] at c
  have key : ((lv is).1 * u + -1 * (lv is).2) * (vl er).2 = (vl er).1 * ((lv is).2 * u) := by
    generalize (lv is).1 = a at *
    generalize (lv is).2 = b at *
    generalize (vl er).1 = A at *
    generalize (vl er).2 = B at *
    simp only at c
    rw [Int.add_mul, Int.mul_assoc, c, Int.add_mul, Int.neg_mul, Int.one_mul, Int.neg_mul, Int.mul_comm B b, Int.mul_comm u A, Int.mul_comm b u, Int.mul_assoc]
    omega
  have nn : 0 ≤ (lv is).1 * u + -1 * (lv is).2 := by
    rcases Int.lt_or_le ((lv is).1 * u + -1 * (lv is).2) 0 with z | z
    · have k := Int.mul_neg_of_neg_of_pos z (show 0 < (vl er).2 by omega)
      have k2 := Int.mul_nonneg p.1 (Int.mul_nonneg (show 0 ≤ (lv is).2 by omega) (show 0 ≤ u by omega))
      omega
    · exact z
  exact ⟨nn, least_eq nn (Int.mul_pos (by omega) (by omega)) p.1 (by omega) key⟩
/-- the greatest common divisor stays small -/
theorem gcd_small {a b u : Int} (hb : 1 ≤ b) (hu : 1 ≤ u) (co : Nat.gcd a.natAbs b.natAbs = 1) : g2 (a * u + b) (b * u) ≤ u * u := by
  have hd : ((g2 (a * u + b) (b * u)).natAbs : Nat) ∣ (u * u).natAbs := by
    refine Int.natAbs_dvd_natAbs.mpr ?_
    have d1 : g2 (a * u + b) (b * u) ∣ a * u + b := Int.natAbs_dvd_natAbs.mp (by rw [Int.natAbs_natCast]; exact Nat.gcd_dvd_left _ _)
    have d2 : g2 (a * u + b) (b * u) ∣ b * u := Int.natAbs_dvd_natAbs.mp (by rw [Int.natAbs_natCast]; exact Nat.gcd_dvd_right _ _)
    generalize g2 (a * u + b) (b * u) = g at *
    -- g divides a u u and b u u
    have d3 : g ∣ a * (u * u) := by
      have k : (a * u + b) * u - b * u = a * (u * u) := by rw [Int.add_mul, Int.mul_assoc]; omega
      rw [← k]
      exact Int.dvd_sub (Int.dvd_mul_of_dvd_left d1) d2
    have d4 : g ∣ b * (u * u) := by
      rw [← Int.mul_assoc]
      exact Int.dvd_mul_of_dvd_left d2
    have e3 : g.natAbs ∣ a.natAbs * (u * u).natAbs := by rw [← Int.natAbs_mul]; exact Int.natAbs_dvd_natAbs.mpr d3
    have e4 : g.natAbs ∣ b.natAbs * (u * u).natAbs := by rw [← Int.natAbs_mul]; exact Int.natAbs_dvd_natAbs.mpr d4
    have e5 := Nat.dvd_gcd e3 e4
    rw [Nat.gcd_mul_right, co, Nat.one_mul] at e5
    exact Int.natAbs_dvd_natAbs.mp e5
  have pos : 0 < u * u := Int.mul_pos (by omega) (by omega)
  have := Nat.le_of_dvd (by omega) hd
  omega
/-- Knuth's way to a sum -/
theorem add_least {a b c d : Int} (hb : 1 ≤ b) (hd : 1 ≤ d) (c1 : Nat.gcd a.natAbs b.natAbs = 1) (c2 : Nat.gcd c.natAbs d.natAbs = 1) (nn : 0 ≤ a * d + c * b) :
    0 ≤ a * (d / g2 b d) + c * (b / g2 b d) ∧ ((a * (d / g2 b d) + c * (b / g2 b d)) / g2 (a * (d / g2 b d) + c * (b / g2 b d)) (g2 b d), b / g2 b d * (d / g2 (a * (d / g2 b d) + c * (b / g2 b d)) (g2 b d))) = least (a * d + c * b) (b * d) := by
  have f0 : 0 < g2 b d := g2_pos (by omega)
  have fb : g2 b d ∣ b := Int.natAbs_dvd_natAbs.mp (by rw [Int.natAbs_natCast]; exact Nat.gcd_dvd_left _ _)
  have fd : g2 b d ∣ d := Int.natAbs_dvd_natAbs.mp (by rw [Int.natAbs_natCast]; exact Nat.gcd_dvd_right _ _)
  have cbd : Nat.gcd (b / g2 b d).natAbs (d / g2 b d).natAbs = 1 := by
    have h := Nat.coprime_div_gcd_div_gcd (m := b.natAbs) (n := d.natAbs) (Nat.gcd_pos_of_pos_left _ (by omega))
    rw [Int.natAbs_ediv_of_dvd fb, Int.natAbs_ediv_of_dvd fd, Int.natAbs_natCast]
    exact h
  generalize g2 b d = f at *
  obtain ⟨b', rfl⟩ := fb
  obtain ⟨d', rfl⟩ := fd
  rw [Int.mul_ediv_cancel_left _ (show f ≠ 0 by omega), Int.mul_ediv_cancel_left _ (show f ≠ 0 by omega)] at *
  have b0 : 0 < b' := by
    rcases Int.lt_or_le 0 b' with z | z
    · exact z
    · have := Int.mul_nonpos_of_nonneg_of_nonpos (show 0 ≤ f by omega) z; omega
  have d0 : 0 < d' := by
    rcases Int.lt_or_le 0 d' with z | z
    · exact z
    · have := Int.mul_nonpos_of_nonneg_of_nonpos (show 0 ≤ f by omega) z; omega
  have eN : a * (f * d') + c * (f * b') = f * (a * d' + c * b') := by rw [Int.mul_add, Int.mul_left_comm a, Int.mul_left_comm c]
  rw [eN] at nn ⊢
  have nn' : 0 ≤ a * d' + c * b' := by
    rcases Int.lt_or_le (a * d' + c * b') 0 with z | z
    · have := Int.mul_neg_of_pos_of_neg f0 z; omega
    · exact z
  refine ⟨nn', ?_⟩
  have s0 : 0 < g2 (a * d' + c * b') f := g2_pos f0
  have sN : g2 (a * d' + c * b') f ∣ a * d' + c * b' := Int.natAbs_dvd_natAbs.mp (by rw [Int.natAbs_natCast]; exact Nat.gcd_dvd_left _ _)
  have sf : g2 (a * d' + c * b') f ∣ f := Int.natAbs_dvd_natAbs.mp (by rw [Int.natAbs_natCast]; exact Nat.gcd_dvd_right _ _)
  have csf : Nat.gcd ((a * d' + c * b') / g2 (a * d' + c * b') f).natAbs (f / g2 (a * d' + c * b') f).natAbs = 1 := by
    have h := Nat.coprime_div_gcd_div_gcd (m := (a * d' + c * b').natAbs) (n := f.natAbs) (Nat.gcd_pos_of_pos_right _ (by omega))
    rw [Int.natAbs_ediv_of_dvd sN, Int.natAbs_ediv_of_dvd sf, Int.natAbs_natCast]
    exact h
  -- coprime to b' and to d'
  have k1 : Nat.gcd (a * d' + c * b').natAbs b'.natAbs = 1 := by
    have h1 : Nat.Coprime a.natAbs b'.natAbs := Nat.Coprime.coprime_dvd_right (Int.natAbs_dvd_natAbs.mpr ⟨f, Int.mul_comm ..⟩) c1
    have h2 : Nat.Coprime d'.natAbs b'.natAbs := Nat.Coprime.symm cbd
    have h3 : Nat.Coprime (a * d').natAbs b'.natAbs := by rw [Int.natAbs_mul]; exact Nat.Coprime.mul_left h1 h2
    have h4 : Int.gcd (a * d' + c * b') b' = Int.gcd (a * d') b' := by rw [Int.gcd_add_mul_right_left]
    exact h4.trans h3
  have k2 : Nat.gcd (a * d' + c * b').natAbs d'.natAbs = 1 := by
    have h1 : Nat.Coprime c.natAbs d'.natAbs := Nat.Coprime.coprime_dvd_right (Int.natAbs_dvd_natAbs.mpr ⟨f, Int.mul_comm ..⟩) c2
    have h3 : Nat.Coprime (c * b').natAbs d'.natAbs := by rw [Int.natAbs_mul]; exact Nat.Coprime.mul_left h1 cbd
    have h4 : Int.gcd (a * d' + c * b') d' = Int.gcd (c * b') d' := by rw [Int.add_comm, Int.gcd_add_mul_right_left]
    exact h4.trans h3
  generalize hN : a * d' + c * b' = N at *
  generalize g2 N f = t at *
  obtain ⟨N', rfl⟩ := sN
  obtain ⟨f', rfl⟩ := sf
  rw [Int.mul_ediv_cancel_left _ (show t ≠ 0 by omega)] at *
  have e6 : t * f' * d' / t = f' * d' := by rw [Int.mul_assoc, Int.mul_ediv_cancel_left _ (show t ≠ 0 by omega)]
  rw [Int.mul_ediv_cancel_left _ (show t ≠ 0 by omega)] at csf
  rw [e6]
  have f'0 : 0 < f' := by
    rcases Int.lt_or_le 0 f' with z | z
    · exact z
    · have := Int.mul_nonpos_of_nonneg_of_nonpos (show 0 ≤ t by omega) z; omega
  have N'0 : 0 ≤ N' := by
    rcases Int.lt_or_le N' 0 with z | z
    · have := Int.mul_neg_of_pos_of_neg s0 z; omega
    · exact z
  have j1 : Nat.Coprime N'.natAbs b'.natAbs := Nat.Coprime.coprime_dvd_left (Int.natAbs_dvd_natAbs.mpr ⟨t, Int.mul_comm ..⟩) k1
  have j2 : Nat.Coprime N'.natAbs d'.natAbs := Nat.Coprime.coprime_dvd_left (Int.natAbs_dvd_natAbs.mpr ⟨t, Int.mul_comm ..⟩) k2
  have jj : Nat.gcd N'.natAbs (b' * (f' * d')).natAbs = 1 := by
    rw [Int.natAbs_mul, Int.natAbs_mul]
    exact Nat.Coprime.mul_right j1 (Nat.Coprime.mul_right csf j2)
  have D0 : 0 < t * f' * b' * (t * f' * d') := Int.mul_pos (Int.mul_pos f0 b0) (Int.mul_pos f0 d0)
  have q0 : 0 < b' * (f' * d') := Int.mul_pos b0 (Int.mul_pos f'0 d0)
  have r := least_rng nn D0
  have cr := least_cross (a := t * f' * (t * N')) (b := t * f' * b' * (t * f' * d')) D0
  have u := co_uniq (p := N') (q := b' * (f' * d')) (r := (least (t * f' * (t * N')) (t * f' * b' * (t * f' * d'))).1) (s := (least (t * f' * (t * N')) (t * f' * b' * (t * f' * d'))).2) q0 (by omega) N'0 r.1 jj (least_co D0) ?_
  · rw [← Prod.mk.injEq] at u
    exact u
  · generalize (least (t * f' * (t * N')) (t * f' * b' * (t * f' * d'))).1 = P at *
    generalize (least (t * f' * (t * N')) (t * f' * b' * (t * f' * d'))).2 = S at *
    have tf : (0 : Int) < t * f' * t := Int.mul_pos f0 s0
    refine Int.eq_of_mul_eq_mul_left (a := t * f' * t) (by omega) ?_
    have x1 : t * f' * t * (N' * S) = t * f' * (t * N') * S := by simp only [Int.mul_assoc]
    have x2 : t * f' * t * (P * (b' * (f' * d'))) = P * (t * f' * b' * (t * f' * d')) := by
      simp only [Int.mul_assoc, Int.mul_left_comm, Int.mul_comm]
    rw [x1, x2, ← cr]
end KK
namespace KK
open PySem PySem.Spec PyProof.Rows L2 Z
/-! ### greedy words -/
def gr : Nat → Int → Int → List Int
  | 0, _, _ => []
  | f + 1, x, y => if 0 < x then cl x y :: gr f (x * cl x y - y) (y * cl x y) else []
theorem gr_pos {f : Nat} {x y : Int} (h : 0 < x) : gr (f + 1) x y = cl x y :: gr f (x * cl x y - y) (y * cl x y) := if_pos h
theorem gr_zero {f : Nat} {y : Int} : gr f 0 y = [] := by cases f <;> rfl
theorem gr_fuel : ∀ (f g : Nat) (x y : Int), 0 ≤ x → x ≤ f → x ≤ g → gr f x y = gr g x y
  | 0, g, x, y, h0, h1, _ => by
    have : x = 0 := by omega
    subst this
    rw [gr_zero, gr_zero]
  | f + 1, 0, x, y, h0, _, h2 => by
    have : x = 0 := by omega
    subst this
    rw [gr_zero, gr_zero]
  | f + 1, g + 1, x, y, h0, h1, h2 => by
    by_cases z : 0 < x
    · have n := cl_next (y := y) z
      rw [gr_pos z, gr_pos z, gr_fuel f g _ _ n.1 (by omega) (by omega)]
    · have : x = 0 := by omega
      subst this
      rw [gr_zero, gr_zero]
def grW (x y : Int) : List Int := gr x.toNat x y
theorem grW_pos {x y : Int} (h : 0 < x) : grW x y = cl x y :: grW (x * cl x y - y) (y * cl x y) := by
  have n := cl_next (y := y) h
  unfold grW
  obtain ⟨k, e⟩ : ∃ k, x.toNat = k + 1 := ⟨x.toNat - 1, by omega⟩
  rw [e, gr_pos h, gr_fuel k (x * cl x y - y).toNat _ _ n.1 (by omega) (by omega)]
theorem grW_zero {y : Int} : grW 0 y = [] := gr_zero
theorem grW_at {x y : Int} (h0 : 0 ≤ x) (h : x ≤ 100) : grW x y = gr 100 x y := gr_fuel _ _ _ _ h0 (by omega) (by omega)
theorem cl_is {x y c : Int} (hx : 0 < x) (h1 : 0 ≤ x * c - y) (h2 : x * c - y < x) : cl x y = c := by
  have n := cl_next (y := y) hx
  have k1 : x * (cl x y - c) < x * 1 := by rw [Int.mul_sub]; omega
  have k2 : x * (c - cl x y) < x * 1 := by rw [Int.mul_sub]; omega
  have := Int.lt_of_mul_lt_mul_left k1 (by omega)
  have := Int.lt_of_mul_lt_mul_left k2 (by omega)
  omega
theorem cl_ratio {x y x' y' : Int} (hx : 0 < x) (hx' : 0 < x') (e : x * y' = x' * y) : cl x y = cl x' y' := by
  have n := cl_next (y := y') hx'
  generalize cl x' y' = c at *
  have e1 : x' * (x * c - y) = x * (x' * c - y') := by rw [Int.mul_sub, Int.mul_sub, e, Int.mul_left_comm]
  refine cl_is hx ?_ ?_
  · rcases Int.lt_or_le (x * c - y) 0 with z | z
    · have k := Int.mul_neg_of_pos_of_neg hx' z
      have k2 := Int.mul_nonneg (show 0 ≤ x by omega) n.1
      omega
    · exact z
  · have k : x * (x' * c - y') < x * x' := Int.mul_lt_mul_of_pos_left n.2 hx
    rw [← e1, Int.mul_comm x x'] at k
    exact Int.lt_of_mul_lt_mul_left k (by omega)
theorem gr_ratio : ∀ (f : Nat) (x y x' y' : Int), 0 ≤ x → 0 ≤ x' → x ≤ f → (0 < x ↔ 0 < x') → x * y' = x' * y → grW x y = grW x' y'
  | 0, x, y, x', y', h0, h0', h1, iff, e => by
    have e1 : x = 0 := by omega
    have e2 : x' = 0 := by
      rcases Int.lt_or_le 0 x' with z | z
      · have := iff.mpr z; omega
      · omega
    subst e1 e2
    rw [grW_zero, grW_zero]
  | f + 1, x, y, x', y', h0, h0', h1, iff, e => by
    by_cases z : 0 < x
    · have z' := iff.mp z
      have ec := cl_ratio z z' e
      have n := cl_next (y := y) z
      have n' := cl_next (y := y') z'
      rw [grW_pos z, grW_pos z', ec]
      rw [ec] at n
      clear ec
      generalize cl x' y' = c at *
      have e1 : x' * (x * c - y) = x * (x' * c - y') := by rw [Int.mul_sub, Int.mul_sub, e, Int.mul_left_comm]
      congr 1
      refine gr_ratio f _ _ _ _ n.1 n'.1 (by omega) ?_ ?_
      · constructor
        · intro q
          have := Int.mul_pos z' q
          rw [e1] at this
          rcases Int.lt_or_le 0 (x' * c - y') with w | w
          · exact w
          · have := Int.mul_nonpos_of_nonneg_of_nonpos (show 0 ≤ x by omega) w; omega
        · intro q
          have := Int.mul_pos z q
          rw [← e1] at this
          rcases Int.lt_or_le 0 (x * c - y) with w | w
          · exact w
          · have := Int.mul_nonpos_of_nonneg_of_nonpos (show 0 ≤ x' by omega) w; omega
      · rw [Int.sub_mul, Int.sub_mul]
        have x1 : x * c * (y' * c) = x' * c * (y * c) := by
          have a1 : x * c * (y' * c) = (x * y') * (c * c) := by simp only [Int.mul_assoc, Int.mul_left_comm]
          have a2 : x' * c * (y * c) = (x' * y) * (c * c) := by simp only [Int.mul_assoc, Int.mul_left_comm]
          rw [a1, a2, e]
        rw [x1, Int.mul_left_comm y y' c]
    · have e1 : x = 0 := by omega
      have e2 : x' = 0 := by
        rcases Int.lt_or_le 0 x' with w | w
        · exact absurd (iff.mpr w) z
        · omega
      subst e1 e2
      rw [grW_zero, grW_zero]
def ascB : List Int → Bool
  | a :: b :: r => decide (a < b) && ascB (b :: r)
  | _ => true
def chk (x y : Int) : Bool :=
  let l := gr 100 x y
  decide (l.length ≤ 20) && (l.all fun i => decide (1 ≤ i) && decide (i ≤ 10 ^ 160)) && ascB l && decide ((vl l).1 * y = x * (vl l).2)
def chkAll : Bool := (List.range 100).all fun y => (List.range (y + 1)).all fun x => chk (((x + 1 : Nat)) : Int) (((y + 1 : Nat)) : Int)
theorem chk_all : chkAll = true := by decide +kernel
end KK
namespace KK
open PySem PySem.Spec PyProof.Rows L2 Z
/-! ### what can be told -/
structure Rq (k L : Nat) (b : Bool) (d : PyData) : Prop where
  sh : d.showable = true
  dp : d.depth ≤ k
  ln : d.shown.length ≤ L
  dl : if b = true then d.hasDict = false else hasList d = false
theorem Rq.mono {k L k' L' : Nat} {b : Bool} {d : PyData} (h : Rq k L b d) (h1 : k ≤ k') (h2 : L ≤ L') : Rq k' L' b d := ⟨h.sh, Nat.le_trans h.dp h1, Nat.le_trans h.ln h2, h.dl⟩
theorem Rq.repr {k L : Nat} {b : Bool} {d : PyData} (h : Rq k L b d) (hk : k ≤ 60) (hL : L ≤ 16777216) : (d.hasDict = false ∨ hasList d = false) ∧ d.showable = true ∧ d.depth ≤ 60 ∧ d.shown.length ≤ sizeLine := by
  have e : sizeLine = 16777216 := by decide
  refine ⟨?_, h.sh, Nat.le_trans h.dp hk, Nat.le_trans h.ln (by omega)⟩
  have q := h.dl
  split at q
  · exact .inl q
  · exact .inr q
theorem rq_of {k L : Nat} {d : PyData} (h : Rep k L d) : Rq k L true d := ⟨h.sh, h.dp, h.ln, h.nd⟩
theorem rq_both {k L : Nat} {d : PyData} (h : Rep k L d) (n : hasList d = false) (b : Bool) : Rq k L b d := ⟨h.sh, h.dp, h.ln, by cases b; exact n; exact h.nd⟩
theorem rq_all {k L : Nat} {b : Bool} : ∀ {ds : List PyData}, (∀ d ∈ ds, Rq k L b d) → PyData.showableAll ds = true ∧ PyData.depthAll ds ≤ k ∧ ((PyData.shownAll ds).length = ds.length ∧ ∀ t ∈ PyData.shownAll ds, t.length ≤ L) ∧ (if b = true then PyData.hasDictAll ds = false else hasListAll ds = false)
  | [], _ => ⟨rfl, by simp [PyData.depthAll], ⟨rfl, fun _ h => by cases h⟩, by cases b <;> rfl⟩
  | d :: r, h => by
    obtain ⟨a, c, ⟨e, f⟩, g⟩ := rq_all (ds := r) fun x hx => h x (List.mem_cons_of_mem _ hx)
    have hd := h d List.mem_cons_self
    refine ⟨?_, ?_, ⟨?_, ?_⟩, ?_⟩
    · simp only [PyData.showableAll, hd.sh, a, Bool.and_self]
    · simp only [PyData.depthAll]
      have := hd.dp
      omega
    · simp only [PyData.shownAll, List.length_cons, e]
    · intro t ht
      simp only [PyData.shownAll, List.mem_cons] at ht
      rcases ht with rfl | ht
      · exact hd.ln
      · exact f t ht
    · have hl := hd.dl
      cases b
      · have g : hasListAll r = false := g
        have hl : hasList d = false := hl
        show hasListAll (d :: r) = false
        rw [hasListAll, hl, g]; rfl
      · have g : PyData.hasDictAll r = false := g
        have hl : d.hasDict = false := hl
        show PyData.hasDictAll (d :: r) = false
        rw [PyData.hasDictAll, hl, g]; rfl
theorem rq_tup {k L n : Nat} {b : Bool} {ds : List PyData} (h : ∀ d ∈ ds, Rq k L b d) (hn : ds.length ≤ n) : Rq (k + 1) (n * (L + 2) + 4) b (.tuple ds) := by
  obtain ⟨a, c, ⟨e, f⟩, g⟩ := rq_all h
  refine ⟨by simp only [PyData.showable, a], by simp only [PyData.depth]; omega, ?_, by cases b <;> (simp only [PyData.hasDict, hasList]; exact g)⟩
  have j := join_le f
  simp only [PyData.shown, tupleText]
  rw [strLen_append, strLen_append]
  have e1 : (Str.ofString "(").length = 1 := by decide +kernel
  have e2 : (Str.ofString (if (PyData.shownAll ds).length == 1 then ",)" else ")" : String)).length ≤ 2 := by split <;> decide +kernel
  rw [e1]
  rw [e] at j
  have : ds.length * (L + 2) ≤ n * (L + 2) := Nat.mul_le_mul_right _ hn
  omega
theorem rq_dict0 : Rq 1 2 false (.dict []) := ⟨rfl, by simp [PyData.depth, PyData.depthKv], by simp only [PyData.shown, PyData.shownKv]; decide +kernel, rfl⟩
theorem rq_dict1 {k L : Nat} {x : Str} {d : PyData} (h : Rq k L false d) (hx : (reprText x).length ≤ 20) : Rq (k + 1) (L + 40) false (.dict [(.str x, d)]) := by
  refine ⟨?_, ?_, ?_, ?_⟩
  · simp only [PyData.showable, PyData.showableKv, h.sh, Bool.and_self]
  · have := h.dp
    simp only [PyData.depth, PyData.depthKv]
    omega
  · have := h.ln
    have e1 : (Str.ofString "{").length = 1 := by decide +kernel
    have e2 : (Str.ofString "}").length = 1 := by decide +kernel
    have e3 : (Str.ofString ": ").length = 2 := by decide +kernel
    simp only [PyData.shown, PyData.shownKv, dictText]
    rw [strLen_append, strLen_append, e1, e2]
    show 1 + (reprText x ++ ": " ++ d.shown).length + 1 ≤ _
    rw [strLen_append, strLen_append, e3]
    omega
  · have : hasList d = false := h.dl
    show hasListKv _ = false
    rw [hasListKv, this]; rfl
theorem text_cps (s : String) : ∀ c ∈ (Str.ofString s).cps.toList, c < 16 ^ 8 := by
  intro c hc
  rw [Str.ofString_eq_toList] at hc
  rw [List.toList_toArray] at hc
  obtain ⟨ch, -, rfl⟩ := List.mem_map.mp hc
  have v : ch.val.toNat < 16 ^ 8 := by
    have := ch.val.toNat_lt
    exact this
  exact v
theorem rq_int' {i : Int} (b : Bool) (h : i.natAbs < 2 ^ 1900) : Rq 0 20000 b (.int i) := rq_both ((rep_int h).mono (by decide) (by decide)) rfl b
theorem rq_text' {i : Int} (b : Bool) (h : i.natAbs < 2 ^ 1900) : Rq 0 20000 b (.str (Str.ofString (toString i))) := by
  have l2 : i.natAbs.log2 < 1920 := by
    have := log2_lt h (by decide)
    omega
  have l := int_text_len_1921 l2
  have r := PySem.StrLaws.reprText_len _ (text_cps (toString i))
  exact ⟨rfl, by simp [PyData.depth], by simp only [PyData.shown]; omega, by cases b <;> rfl⟩
theorem mx_nat {i : Int} (h0 : -(10 * Mx) ≤ i) (h : i ≤ 10 * Mx) : i.natAbs < 2 ^ 1900 := by
  have := mx_hi
  have e : ((2 ^ 1900 : Nat) : Int) = 2 ^ 1900 := by simp
  omega
theorem mx_i {i : Int} (b : Bool) (h0 : -(10 * Mx) ≤ i) (h : i ≤ 10 * Mx) : Rq 0 20000 b (.int i) := rq_int' b (mx_nat h0 h)
def ordD (k : Nat) : PyData := .tuple [.str "order", .int k]
def isI : PyData → Bool
  | .int _ => true
  | _ => false
def LikeOk : Nat → PyData → Prop
  | _, .none => True
  | _, .int _ => True
  | _, .str _ => True
  | n + 1, .tuple ds => ds.length ≤ 10000 ∧ ∀ d ∈ ds, LikeOk n d
  | _, _ => False
theorem LikeOk.up : ∀ {n : Nat} {d : PyData}, LikeOk n d → LikeOk (n + 1) d
  | _, .none, _ => by unfold LikeOk; trivial
  | _, .int _, _ => by unfold LikeOk; trivial
  | _, .str _, _ => by unfold LikeOk; trivial
  | 0, .tuple ds, h => by unfold LikeOk at h; exact h.elim
  | n + 1, .tuple ds, h => by
    unfold LikeOk at h ⊢
    exact ⟨h.1, fun d hd => (h.2 d hd).up⟩
  | _, .bool _, h => by unfold LikeOk at h; exact h.elim
  | _, .list _, h => by unfold LikeOk at h; exact h.elim
  | _, .dict _, h => by unfold LikeOk at h; exact h.elim
theorem like_prd {n : Nat} (p : Int × Int) : LikeOk (n + 1) (prd p) := by
  unfold prd LikeOk
  refine ⟨by simp, fun d hd => ?_⟩
  simp at hd
  rcases hd with rfl | rfl <;> (unfold LikeOk; trivial)
theorem like_two {n : Nat} {a b : PyData} (ha : LikeOk n a) (hb : LikeOk n b) : LikeOk (n + 1) (.tuple [a, b]) := by
  unfold LikeOk
  refine ⟨by simp, fun d hd => ?_⟩
  simp at hd
  rcases hd with rfl | rfl
  · exact ha
  · exact hb
theorem like_str {n : Nat} (x : Str) : LikeOk n (.str x) := by cases n <;> (unfold LikeOk; trivial)
theorem like_none {n : Nat} : LikeOk n .none := by cases n <;> (unfold LikeOk; trivial)
theorem like_ints {n : Nat} {is : List Int} (h : is.length ≤ 10000) : LikeOk (n + 1) (.tuple (isD is)) := by
  unfold LikeOk
  refine ⟨by rw [isD, List.length_map]; exact h, fun d hd => ?_⟩
  obtain ⟨i, -, rfl⟩ := List.mem_map.mp hd
  cases n <;> (unfold LikeOk; trivial)
theorem like_ord {n : Nat} (k : Nat) : LikeOk (n + 1) (ordD k) := by
  unfold ordD LikeOk
  refine ⟨by simp, fun d hd => ?_⟩
  simp at hd
  rcases hd with rfl | rfl <;> (cases n <;> (unfold LikeOk; trivial))
def upP : Int → List Int → Prop
  | _, [] => True
  | m, a :: r => m ≤ a ∧ upP (a + 1) r
theorem upP_mem : ∀ {is : List Int} {m : Int}, upP m is → ∀ i ∈ is, m ≤ i
  | a :: r, m, h, i, hi => by
    rcases List.mem_cons.mp hi with rfl | hi
    · exact h.1
    · have := upP_mem h.2 i hi
      have := h.1
      omega
def dnp : List Int → Nat → Option Nat
  | a :: b :: r, k => if b ≤ a then some k else dnp (b :: r) (k + 1)
  | _, _ => none
theorem dnp_up : ∀ {is : List Int} {m : Int} {k : Nat}, upP m is → dnp is k = none
  | [], _, _, _ => rfl
  | [_], _, _, _ => rfl
  | a :: b :: r, m, k, h => by
    show (if b ≤ a then some k else dnp (b :: r) (k + 1)) = none
    have := h.2.1
    rw [if_neg (by omega)]
    exact dnp_up h.2
def toI : PyData → Int
  | .int i => i
  | _ => 0
def intsD : PyData → List Int
  | .tuple ds => ds.map toI
  | _ => []
def lenOk : PyData → Prop
  | .tuple ds => ds.length ≤ 1000
  | _ => True
theorem toI_isD : ∀ is : List Int, (isD is).map toI = is
  | [] => rfl
  | i :: r => congrArg (i :: ·) (toI_isD r)
theorem dnp_rev : ∀ {is : List Int} {m : Int} {k : Nat}, (∀ i ∈ is, m ≤ i) → dnp is k = none → upP m is
  | [], _, _, _, _ => trivial
  | [a], _, _, h, _ => ⟨h a (by simp), trivial⟩
  | a :: b :: r, m, k, h, e => by
    have e : (if b ≤ a then some k else dnp (b :: r) (k + 1)) = none := e
    by_cases z : b ≤ a
    · rw [if_pos z] at e; cases e
    · rw [if_neg z] at e
      refine ⟨h a (by simp), ?_⟩
      have u := dnp_rev (is := b :: r) (m := b) (k := k + 1) ?_ e
      · exact ⟨by omega, u.2⟩
      · have q := dnp_lt (k := k + 1) e
        exact q
where
  dnp_lt : ∀ {b : Int} {r : List Int} {k : Nat}, dnp (b :: r) k = none → ∀ i ∈ b :: r, b ≤ i
    | b, [], k, _, i, hi => by simp at hi; omega
    | b, c :: r, k, e, i, hi => by
      have e : (if c ≤ b then some k else dnp (c :: r) (k + 1)) = none := e
      by_cases z : c ≤ b
      · rw [if_pos z] at e; cases e
      · rw [if_neg z] at e
        rcases List.mem_cons.mp hi with rfl | hi
        · omega
        · have := dnp_lt e i hi
          omega
/-- ascending -/
def Asc (is : List Int) : Prop := is.Pairwise (· < ·)
theorem asc_up : ∀ {is : List Int} {m : Int}, Asc is → (∀ i ∈ is, m ≤ i) → upP m is
  | [], _, _, _ => trivial
  | a :: r, m, h, hm => by
    obtain ⟨h1, h2⟩ := List.pairwise_cons.mp h
    exact ⟨hm a (by simp), asc_up h2 fun i hi => by have := h1 i hi; omega⟩
theorem up_asc : ∀ {is : List Int} {m : Int}, upP m is → Asc is
  | [], _, _ => List.Pairwise.nil
  | a :: r, m, h => List.pairwise_cons.mpr ⟨fun i hi => by have := upP_mem h.2 i hi; omega, up_asc h.2⟩
theorem asc_dnp {is : List Int} {k : Nat} (h : Asc is) (h1 : ∀ i ∈ is, 1 ≤ i) : dnp is k = none := dnp_up (asc_up h h1)
theorem dnp_asc {is : List Int} {k : Nat} (h1 : ∀ i ∈ is, 1 ≤ i) (e : dnp is k = none) : Asc is := up_asc (dnp_rev h1 e)
theorem ascB_ok : ∀ {is : List Int}, ascB is = true → Asc is
  | [], _ => List.Pairwise.nil
  | [a], _ => List.pairwise_singleton ..
  | a :: b :: r, h => by
    have h : (decide (a < b) && ascB (b :: r)) = true := h
    rw [Bool.and_eq_true] at h
    have ih := ascB_ok h.2
    have ab := of_decide_eq_true h.1
    refine List.pairwise_cons.mpr ⟨fun i hi => ?_, ih⟩
    rcases List.mem_cons.mp hi with rfl | hi
    · exact ab
    · have := (List.pairwise_cons.mp ih).1 i hi
      omega
/-! ### what is due -/
def okW (lo hi : Int) : PyData → Bool
  | .int i => decide (lo ≤ i) && decide (i ≤ hi)
  | _ => false
abbrev okI : PyData → Bool := okW 1 Mx
def isF : PyData → Bool
  | .tuple ds => decide (ds.length ≤ 20) && ds.all okI
  | _ => false
def shp (d : PyData) : PyData := if isF d = true then (match dnp (intsD d) 1 with | some k => ordD k | none => .none) else .str "form"
def due (x y : Int) (d : PyData) : PyData := if isF d = true then (match dnp (intsD d) 1 with | some k => ordD k | none => if lv (intsD d) = least x y then .none else .tuple [.str "sum", prd (lv (intsD d))]) else .str "form"
structure Au (is : List Int) : Prop where
  u : Uv is
  n : is.length ≤ 20
  a : Asc is
theorem okI_ints : ∀ {ds : List PyData}, ds.all okI = true → ds = isD (ds.map toI) ∧ ∀ i ∈ ds.map toI, 1 ≤ i ∧ i ≤ Mx
  | [], _ => ⟨rfl, fun _ h => by cases h⟩
  | d :: r, h => by
    rw [List.all_cons, Bool.and_eq_true] at h
    obtain ⟨h1, h2⟩ := okI_ints h.2
    cases d with
    | int i =>
      have hi : (decide (1 ≤ i) && decide (i ≤ Mx)) = true := h.1
      rw [Bool.and_eq_true] at hi
      have a := of_decide_eq_true hi.1
      have b := of_decide_eq_true hi.2
      refine ⟨?_, fun j hj => ?_⟩
      · show _ = PyData.int i :: isD (r.map toI)
        rw [← h1]
      · rcases List.mem_cons.mp hj with rfl | hj
        · exact ⟨a, b⟩
        · exact h2 j hj
    | _ => exact absurd h.1 Bool.false_ne_true
theorem isF_ints {d : PyData} (h : isF d = true) : ∃ is, d = .tuple (isD is) ∧ is.length ≤ 20 ∧ Uv is ∧ intsD d = is := by
  cases d with
  | tuple ds =>
    unfold isF at h
    rw [Bool.and_eq_true] at h
    obtain ⟨e, p⟩ := okI_ints h.2
    have n := of_decide_eq_true h.1
    have l : (ds.map toI).length ≤ 20 := by rw [List.length_map]; exact n
    exact ⟨ds.map toI, by rw [← e], l, ⟨by omega, p⟩, rfl⟩
  | _ => exact absurd h Bool.false_ne_true
theorem isF_isD {is : List Int} (h : is.length ≤ 20) (p : ∀ i ∈ is, 1 ≤ i ∧ i ≤ Mx) : isF (.tuple (isD is)) = true ∧ intsD (.tuple (isD is)) = is := by
  refine ⟨?_, toI_isD is⟩
  unfold isF
  rw [Bool.and_eq_true, len_isD]
  refine ⟨decide_eq_true h, ?_⟩
  clear h
  induction is with
  | nil => rfl
  | cons a r ih =>
    show (okI (.int a) && (isD r).all okI) = true
    rw [ih fun i hi => p i (List.mem_cons_of_mem _ hi), Bool.and_true]
    have := p a List.mem_cons_self
    show (decide (1 ≤ a) && decide (a ≤ Mx)) = true
    rw [decide_eq_true this.1, decide_eq_true this.2]; rfl
theorem shp_none {d : PyData} (h : shp d = .none) : ∃ is, d = .tuple (isD is) ∧ Au is ∧ intsD d = is ∧ isF d = true := by
  unfold shp at h
  by_cases f : isF d = true
  · rw [if_pos f] at h
    obtain ⟨is, e, n, u, ei⟩ := isF_ints f
    rw [ei] at h
    refine ⟨is, e, ⟨u, n, ?_⟩, ei, f⟩
    cases z : dnp is 1 with
    | none => exact dnp_asc u.one z
    | some k => rw [z] at h; cases h
  · rw [if_neg f] at h; cases h
theorem Au.shp {is : List Int} (h : Au is) : shp (.tuple (isD is)) = .none := by
  obtain ⟨a, b⟩ := isF_isD h.n h.u.i
  unfold KK.shp
  rw [if_pos a, b, asc_dnp h.a h.u.one]
theorem Au.due {is : List Int} (h : Au is) (x y : Int) : due x y (.tuple (isD is)) = if lv is = least x y then .none else .tuple [.str "sum", prd (lv is)] := by
  obtain ⟨a, b⟩ := isF_isD h.n h.u.i
  unfold KK.due
  rw [if_pos a, b, asc_dnp h.a h.u.one]
theorem due_shp {x y : Int} {d : PyData} (h : shp d ≠ .none) : due x y d = shp d := by
  unfold shp due at *
  by_cases f : isF d = true
  · rw [if_pos f] at h ⊢
    rw [if_pos f]
    cases z : dnp (intsD d) 1 with
    | none => rw [z] at h; exact absurd rfl h
    | some k => rfl
  · rw [if_neg f, if_neg f]
theorem like_shp {n : Nat} (d : PyData) : LikeOk (n + 1) (shp d) := by
  unfold shp
  split
  · split
    · exact like_ord _
    · exact like_none
  · exact like_str _
theorem like_due {n : Nat} (x y : Int) (d : PyData) : LikeOk (n + 2) (due x y d) := by
  unfold due
  split
  · split
    · exact like_ord _
    · split
      · exact like_none
      · exact like_two (like_str _) (like_prd _)
  · exact like_str _
/-! ### greedy words are right -/
theorem mx_lit : (10 : Int) ^ 160 = Mx := by unfold Mx; rfl
structure Gw (x y : Int) (is : List Int) : Prop where
  au : Au is
  v : (vl is).1 * y = x * (vl is).2
theorem gr_chk {x y : Int} (h : Fx x y) : Gw x y (grW x y) := by
  have c := chk_all
  unfold chkAll at c
  have c1 := List.all_eq_true.mp c (y.toNat - 1) (List.mem_range.mpr (by have := h.y0; have := h.y1; omega))
  have c2 := List.all_eq_true.mp c1 (x.toNat - 1) (List.mem_range.mpr (by have := h.x0; have := h.x1; omega))
  rw [show (((x.toNat - 1 + 1 : Nat)) : Int) = x by have := h.x0; omega, show (((y.toNat - 1 + 1 : Nat)) : Int) = y by have := h.y0; omega] at c2
  rw [grW_at (by have := h.x0; omega) (by have := h.x1; have := h.y1; omega)]
  unfold chk at c2
  simp only [Bool.and_eq_true, decide_eq_true_eq, List.all_eq_true, mx_lit] at c2
  obtain ⟨⟨⟨a, b⟩, d⟩, e⟩ := c2
  exact ⟨⟨⟨by omega, b⟩, a, ascB_ok d⟩, e⟩
theorem Fx.lv {x y : Int} (h : Fx x y) : lv (grW x y) = least x y := by
  have g := gr_chk h
  have p := vl_pos g.au.u.one
  obtain ⟨y0, y1, x0, x1⟩ := h
  exact least_eq p.1 (by omega) (by omega) (by omega) g.v
theorem Fx.ne {x y : Int} (h : Fx x y) : grW x y ≠ [] := by
  rw [grW_pos (by have := h.x0; omega)]; simp
theorem Fx.mul {x y : Int} (h : Fx x y) {m : Int} (m0 : 1 ≤ m) (m1 : m ≤ 100 / (least x y).2) : Fx (m * (least x y).1) (m * (least x y).2) ∧ grW (m * (least x y).1) (m * (least x y).2) = grW x y ∧ least (m * (least x y).1) (m * (least x y).2) = least x y := by
  obtain ⟨y0, y1, x0, x1⟩ := h
  have r := least_rng (a := x) (b := y) (by omega) (by omega)
  have c := least_cross (a := x) (b := y) (by omega)
  obtain ⟨e1, e2⟩ := least_mul (a := x) (b := y) (by omega)
  have g := g2_pos (a := x) (b := y) (by omega)
  have a1 := r.2.2.2.2 (by omega)
  have ab : (least x y).1 ≤ (least x y).2 := Int.le_of_mul_le_mul_left (a := g2 x y) (by rw [e1, e2]; exact x1) g
  have r' := r.2.2
  generalize (least x y).1 = A at *
  generalize hB : (least x y).2 = B at *
  have k1 : m * B ≤ 100 := by
    have := Int.mul_le_mul_of_nonneg_right m1 (show 0 ≤ B by omega)
    have := Int.ediv_mul_le 100 (show B ≠ 0 by omega)
    omega
  have k2 := Int.mul_le_mul_of_nonneg_left ab (show 0 ≤ m by omega)
  have k3 := Int.mul_pos (show 0 < m by omega) (show 0 < A by omega)
  have k4 : m * A * y = x * (m * B) := by rw [Int.mul_assoc, c, Int.mul_left_comm]
  refine ⟨⟨by omega, k1, by omega, k2⟩, ?_, ?_⟩
  · exact gr_ratio (m * A).toNat _ _ _ _ (by omega) (by omega) (by omega) ⟨fun _ => by omega, fun _ => by omega⟩ k4
  · exact least_eq (by omega) (by omega) (by omega) (by omega) k4
theorem cl_le {x y : Int} (hx : 0 < x) : y ≤ x * cl x y := by have := cl_next (y := y) hx; omega
end KK
namespace KK
open PySem PySem.Spec PyProof.Rows L2 Z
/-! ### units put apart -/
structure Ap (s : Int × Int) (is : List Int) : Prop where
  u : Uv is
  a : Asc is
  v : lv is = s
theorem lv_apart {a : Int} {r : List Int} (ha : 1 ≤ a) (hr : ∀ i ∈ r, 1 ≤ i) : lv ((a + 1) :: (a * (a + 1)) :: r) = lv (a :: r) := by
  have p := vl_pos hr
  have a2 : 1 ≤ a * (a + 1) := Int.mul_pos (by omega) (by omega)
  have h1 := vl_pos (is := (a + 1) :: (a * (a + 1)) :: r) (by
    intro i hi
    simp only [List.mem_cons] at hi
    rcases hi with rfl | rfl | hi
    · omega
    · exact a2
    · exact hr i hi)
  have h2 := vl_pos (is := a :: r) (by
    intro i hi
    rcases List.mem_cons.mp hi with rfl | hi
    · exact ha
    · exact hr i hi)
  refine least_eq h1.1 (by omega) h2.1 (by omega) ?_
  simp only [vl]
  generalize (vl r).1 = A at *
  generalize (vl r).2 = B at *
  generalize hc : a + 1 = c at *
  have e1 : a * c * B + c * (B + a * c * A) = c * c * (B + a * A) := by
    have x1 : a * c * B + c * B = c * (c * B) := by
      rw [Int.mul_comm a c, Int.mul_assoc, ← Int.mul_add]
      congr 1
      rw [← hc, Int.add_mul, Int.one_mul]
    rw [Int.mul_add, ← Int.add_assoc, x1, Int.mul_add, Int.mul_assoc c c B]
    congr 1
    simp only [Int.mul_assoc, Int.mul_left_comm]
  rw [e1]
  simp only [Int.mul_assoc, Int.mul_left_comm, Int.mul_comm]
theorem asc_nodup {is : List Int} (h : Asc is) : is.Nodup := h.imp fun h => by omega
theorem asc_of {is : List Int} (h : is.Nodup) (h2 : is.Pairwise (· ≤ ·)) : Asc is := (h.and h2).imp fun h => by have := h.1; have := h.2; omega
theorem Ap.step {s : Int × Int} {is ms : List Int} {a : Int} (h : Ap s is) (n : is.length ≤ 20) (ha : a ∈ is) (a1 : 1 < a) (n1 : a + 1 ∉ is) (n2 : a * (a + 1) ∉ is) (le : a * (a + 1) ≤ Mx)
    (pe : ms.Perm (is.filter (fun i => !decide (i = a)) ++ [a + 1, a * (a + 1)])) (so : ms.Pairwise (· ≤ ·)) : Ap s ms ∧ ms.length = is.length + 1 := by
  have nd := asc_nodup h.a
  have fe : is.filter (fun i => !decide (i = a)) = is.erase a := by
    rw [nd.erase_eq_filter]
    congr 1
  rw [fe] at pe
  have per := List.perm_cons_erase ha
  have a2 : a + 1 < a * (a + 1) := by
    have k := Int.mul_lt_mul_of_pos_right a1 (show 0 < a + 1 by omega)
    omega
  have sub : ∀ i ∈ is.erase a, i ∈ is := fun i hi => List.mem_of_mem_erase hi
  have ndm : (is.erase a ++ [a + 1, a * (a + 1)]).Nodup := by
    refine List.nodup_append.mpr ⟨nd.erase a, ?_, ?_⟩
    · refine List.nodup_cons.mpr ⟨?_, List.nodup_cons.mpr ⟨by simp, List.nodup_nil⟩⟩
      simp only [List.mem_cons, List.not_mem_nil, or_false]
      omega
    · intro x hx y hy e
      subst e
      simp only [List.mem_cons, List.not_mem_nil, or_false] at hy
      rcases hy with e | e
      · exact n1 (e ▸ sub x hx)
      · exact n2 (e ▸ sub x hx)
  have len : ms.length = is.length + 1 := by
    rw [pe.length_eq, List.length_append, List.length_erase_of_mem ha]
    have := List.length_pos_of_mem ha
    simp only [List.length_cons, List.length_nil]
    omega
  refine ⟨⟨⟨by omega, fun i hi => ?_⟩, asc_of (pe.symm.nodup ndm) so, ?_⟩, len⟩
  · have hi := pe.mem_iff.mp hi
    rcases List.mem_append.mp hi with hi | hi
    · exact h.u.i i (sub i hi)
    · have := h.u.i a ha
      simp only [List.mem_cons, List.not_mem_nil, or_false] at hi
      rcases hi with e | e <;> (subst e; omega)
  · rw [lv_perm pe, ← h.v, lv_perm per, ← lv_apart (by omega) fun i hi => h.u.one i (sub i hi)]
    exact lv_perm (List.perm_append_comm (l₁ := is.erase a) (l₂ := [a + 1, a * (a + 1)]))
/-! ### units by divisors -/
def dvs (y j : Nat) : List Int := ((List.range j).filter fun i => decide (y % (y - i) = 0)).map fun i => ((y / (y - i) : Nat) : Int)
theorem dvs_succ {y j : Nat} : dvs y (j + 1) = dvs y j ++ (if y % (y - j) = 0 then [((y / (y - j) : Nat) : Int)] else []) := by
  unfold dvs
  rw [List.range_succ, List.filter_append, List.map_append]
  congr 1
  by_cases h : y % (y - j) = 0
  · simp [h]
  · simp [h]
def dvChk : Bool := (List.range 101).all fun y => ascB (dvs y y) && decide ((dvs y y).length ≤ 20) && (dvs y y).all fun i => decide (1 ≤ i) && decide (i ≤ 100)
theorem dv_chk : dvChk = true := by decide +kernel
structure Dv (y left : Int) (j : Nat) (is : List Int) : Prop where
  sb : is.Sublist (dvs y.toNat j)
  l0 : 0 ≤ left
  l1 : left ≤ y
  v : (vl is).1 * y = (y - left) * (vl is).2
  e : is = [] → left = y
theorem Dv.au {y left : Int} {j : Nat} {is : List Int} (h : Dv y left j is) (y0 : 1 ≤ y) (y1 : y ≤ 100) (hj : j ≤ y.toNat) : Au is := by
  have c := dv_chk
  unfold dvChk at c
  have c1 := List.all_eq_true.mp c y.toNat (List.mem_range.mpr (by omega))
  simp only [Bool.and_eq_true, decide_eq_true_eq, List.all_eq_true] at c1
  obtain ⟨⟨a, b⟩, d⟩ := c1
  have sb2 : (dvs y.toNat j).Sublist (dvs y.toNat y.toNat) := by
    unfold dvs
    refine List.Sublist.map _ (List.Sublist.filter _ ?_)
    have e : y.toNat = j + (y.toNat - j) := by omega
    rw [e, List.range_add]
    exact List.sublist_append_left ..
  have sb := h.sb.trans sb2
  have l := sb.length_le
  have mx := mx_lo
  refine ⟨⟨by omega, fun i hi => ?_⟩, by omega, (ascB_ok a).sublist sb⟩
  have := d i (sb.subset hi)
  omega
theorem Dv.skip {y left : Int} {j : Nat} {is : List Int} (h : Dv y left j is) : Dv y left (j + 1) is := ⟨h.sb.trans (by rw [dvs_succ]; exact List.sublist_append_left ..), h.l0, h.l1, h.v, h.e⟩
theorem Dv.put {y left d : Int} {j : Nat} {is : List Int} (h : Dv y left j is) (hd : d = y + (j : Int) * -1) (d0 : 0 < d) (m : y % d = 0) (le : d ≤ left) : Dv y (left - d) (j + 1) (is ++ [y / d]) := by
  have e1 : y.toNat - j = d.toNat := by omega
  have e2 : ((y.toNat / d.toNat : Nat) : Int) = y / d := by
    rw [Int.natCast_ediv, Int.toNat_of_nonneg (by have := h.l1; omega), Int.toNat_of_nonneg (by omega)]
  have e3 : y.toNat % d.toNat = 0 := by
    have k : ((y.toNat % d.toNat : Nat) : Int) = y % d := by rw [Int.natCast_emod, Int.toNat_of_nonneg (by have := h.l1; omega), Int.toNat_of_nonneg (by omega)]
    omega
  refine ⟨?_, by omega, by have := h.l1; omega, ?_, fun z => by simp at z⟩
  · rw [dvs_succ, e1, if_pos e3, e2]
    exact h.sb.append (List.Sublist.refl _)
  · rw [vl_perm (snoc_perm is (y / d))]
    simp only [vl]
    have v := h.v
    have e4 : y = d * (y / d) := by have := Int.mul_ediv_add_emod y d; omega
    generalize y / d = q at *
    generalize (vl is).1 = A at *
    generalize (vl is).2 = B at *
    have x1 : (B + q * A) * y = B * y + q * (A * y) := by rw [Int.add_mul, Int.mul_assoc]
    have x2 : (y - (left - d)) * (q * B) = q * ((y - left) * B) + B * (d * q) := by
      rw [show y - (left - d) = (y - left) + d by omega, Int.add_mul]
      congr 1
      · rw [Int.mul_left_comm]
      · rw [Int.mul_comm q B, Int.mul_left_comm]
    rw [x1, x2, v, ← e4]
    omega
theorem Dv.fx {y left : Int} {j : Nat} {is : List Int} (h : Dv y left j is) (y0 : 1 ≤ y) (y1 : y ≤ 100) (hj : j ≤ y.toNat) (ne : is ≠ []) : Fx (y - left) y ∧ lv is = least (y - left) y := by
  have au := h.au y0 y1 hj
  have p := vl_pos au.u.one
  have p1 := vl_p1 au.u.one ne
  have v := h.v
  have k := Int.mul_pos (show 0 < (vl is).1 by omega) (show 0 < y by omega)
  have x0 : 0 < y - left := by
    rcases Int.lt_or_le 0 (y - left) with z | z
    · exact z
    · have := Int.mul_nonpos_of_nonpos_of_nonneg z (show 0 ≤ (vl is).2 by omega); omega
  have := h.l0
  exact ⟨⟨y0, y1, x0, by omega⟩, least_eq p.1 (by omega) (by omega) (by omega) v⟩
/-! ### values that are judged -/
theorem isD_inj {is js : List Int} (h : isD is = isD js) : is = js := by
  have := congrArg (fun l : List PyData => l.map toI) h
  simpa only [toI_isD] using this
def Never (v : PyData) : Prop := ∀ is, v = .tuple (isD is) → ¬ Au is
theorem nv_mem {ds : List PyData} {e : PyData} (h : e ∈ ds) (h2 : okI e = false) : Never (.tuple ds) := by
  rintro is e1 au
  cases e1
  obtain ⟨i, hi, rfl⟩ := List.mem_map.mp h
  have := au.u.i i hi
  have : okI (.int i) = true := by
    show (decide (1 ≤ i) && decide (i ≤ Mx)) = true
    rw [decide_eq_true this.1, decide_eq_true this.2]; rfl
  rw [h2] at this
  cases this
theorem nv_len {ds : List PyData} (h : 20 < ds.length) : Never (.tuple ds) := by
  rintro is e1 au
  cases e1
  rw [len_isD] at h
  have := au.n
  omega
theorem nv_asc {js : List Int} (h : ¬ Asc js) : Never (.tuple (isD js)) := by
  rintro is e1 au
  have := isD_inj (PyData.tuple.inj e1)
  subst this
  exact h au.a
theorem nv_not {v : PyData} (h : ∀ ds, v ≠ .tuple ds) : Never v := fun is e => absurd e (h _)
theorem na_dup {l r : List Int} {a : Int} : ¬ Asc (l ++ [a] ++ a :: r) := by
  intro h
  have := (List.pairwise_append.mp h).2.2 a (by simp) a (by simp)
  omega
theorem na_turn {l r : List Int} {a b : Int} (h : b < a) : ¬ Asc (l ++ [a, b] ++ r) := by
  intro g
  have := (List.pairwise_append.mp (List.pairwise_append.mp g).1).2.1
  have := (List.pairwise_cons.mp this).1 b (by simp)
  omega
theorem na_end {l : List Int} {a : Int} (h : ∃ b ∈ l, a ≤ b) : ¬ Asc (l ++ [a]) := by
  intro g
  obtain ⟨b, hb, le⟩ := h
  have := (List.pairwise_append.mp g).2.2 b hb a (by simp)
  omega
theorem na_rev {l : List Int} (h : Asc l) (n : 1 < l.length) : ¬ Asc l.reverse := by
  intro g
  have g := List.pairwise_reverse.mp g
  match l, n, h, g with
  | a :: b :: r, _, h, g =>
    have := (List.pairwise_cons.mp h).1 b (by simp)
    have := (List.pairwise_cons.mp g).1 b (by simp)
    omega
structure Vok (v : PyData) : Prop where
  ln : lenOk v
  rq : ∃ b, Rq 5 8000000 b v
structure Vc (d : PyData) : Prop where
  mk' ::
  h : ∃ v t, d = .tuple [v, t] ∧ Vok v ∧ ∀ is, v = .tuple (isD is) → Au is → t = prd (lv is)
theorem Vc.mk {v t : PyData} (h : Vok v) (h2 : ∀ is, v = .tuple (isD is) → Au is → t = prd (lv is)) : Vc (.tuple [v, t]) := ⟨_, _, rfl, h, h2⟩
theorem Vc.nv {v t : PyData} (h : Vok v) (h2 : Never v) : Vc (.tuple [v, t]) := .mk h fun is e au => absurd au (h2 is e)
theorem Vc.is {js : List Int} {t : PyData} (h : Vok (.tuple (isD js))) (h2 : t = prd (lv js)) : Vc (.tuple [.tuple (isD js), t]) := .mk h fun is e _ => by
  have := isD_inj (PyData.tuple.inj e)
  subst this
  exact h2
theorem lv_nil : lv [] = (0, 1) := by decide +kernel
theorem cut_last {α : Type} (xs : List α) : Z.cutD xs none (some (-1)) = xs.dropLast := by
  unfold Z.cutD
  rw [HT.sIx_none]
  show (xs.drop 0).take (((-1 : Int) + (xs.length : Int)).toNat - 0) = _
  rw [List.drop_zero, List.dropLast_eq_take]
  congr 1
  omega
theorem mx_l : (10000000000000000000000000000000000000000000000000000000000000000000000000000000000000000000000000000000000000000000000000000000000000000000000000000000000000000 : Int) = Mx := by unfold Mx; decide +kernel
theorem like3_prd (p : Int × Int) : LikeOk 3 (prd p) := like_prd p
/-! ### sizes -/
structure Tn (b : Bool) (n : Nat) (ds : List PyData) : Prop where
  n : ds.length ≤ n
  r : ∀ d ∈ ds, Rq 2 20100 b d
theorem Tn.vok {b : Bool} {n : Nat} {ds : List PyData} (h : Tn b n ds) (hn : n ≤ 390) : Vok (.tuple ds) := ⟨by show ds.length ≤ 1000; have := h.n; omega, b, (rq_tup h.r (Nat.le_trans h.n hn)).mono (by decide) (by decide)⟩
theorem tn_app {b : Bool} {n m : Nat} {xs ys : List PyData} (h : Tn b n xs) (h' : Tn b m ys) : Tn b (n + m) (xs ++ ys) := ⟨by rw [List.length_append]; have := h.n; have := h'.n; omega, fun d hd => (List.mem_append.mp hd).elim (h.r d) (h'.r d)⟩
theorem tn_cut {b : Bool} {n : Nat} {xs : List PyData} {lo hi : Option Int} (h : Tn b n xs) : Tn b n (Z.cutD xs lo hi) := ⟨Nat.le_trans (cutD_len _ _ _) h.n, fun d hd => h.r d (List.mem_of_mem_drop (List.mem_of_mem_take hd))⟩
theorem tn_nil {b : Bool} : Tn b 0 [] := ⟨Nat.le_refl _, by simp⟩
theorem tn_cons {b : Bool} {n : Nat} {d : PyData} {xs : List PyData} (hd : Rq 2 20100 b d) (h : Tn b n xs) : Tn b (n + 1) (d :: xs) := ⟨Nat.succ_le_succ h.n, fun e he => (List.mem_cons.mp he).elim (fun q => q ▸ hd) (h.r e)⟩
theorem tn_1 {b : Bool} {d : PyData} (hd : Rq 2 20100 b d) : Tn b 1 [d] := tn_cons hd tn_nil
theorem el_i {b : Bool} {i : Int} (h0 : -(10 * Mx) ≤ i) (h1 : i ≤ 10 * Mx) : Rq 2 20100 b (.int i) := (mx_i b h0 h1).mono (by decide) (by decide)
theorem el_b {c : Bool} : Rq 2 20100 true (.bool c) := (rq_of rep_bool).mono (by decide) (by decide)
theorem tn_w {b : Bool} {is : List Int} (h : Uv is) : Tn b 21 (isD is) := ⟨by rw [len_isD]; exact h.n, fun d hd => by
  obtain ⟨i, hi, rfl⟩ := List.mem_map.mp hd
  have := h.i i hi
  exact el_i (by omega) (by omega)⟩
theorem tn_rep {b : Bool} {k : Int} {d : PyData} (hd : Rq 2 20100 b d) (hk : k ≤ 321) : Tn b 321 (repD [d] k) := ⟨by rw [len_repD]; simp; omega, fun e he => by
  unfold repD at he
  obtain ⟨t, h1, h2⟩ := List.mem_flatten.mp he
  obtain rfl := (List.mem_replicate.mp h1).2
  obtain rfl := List.mem_singleton.mp h2
  exact hd⟩
end KK
/-! C91: what the defs of k91 keep. -/
namespace KK
open PySem PySem.Spec PyProof.Rows L2 Z
inductive c_split_unit (Cl : Cls) : Con where
  | mk {n : Int} {Ω : Om} {Φ : PhiE} {Ξ : XA} : 1 ≤ n → n ≤ 1000 → (n ≠ 1 → Φ (.d (prd (n + 1, n * (n + 1)))) Ω) → (n = 1 → Ξ (.ref Cl.Unfit, none) Ω) → c_split_unit Cl [I n] Ω Φ Ξ
theorem ari_split_unit (Cl : Cls) : Ari (c_split_unit Cl) 1 := by rintro _ _ _ _ ⟨_, _⟩; rfl
abbrev c_l_own_bag : Con := OwnC 63
abbrev c_l_draw : Con := DrawC
abbrev c_l_pick : Con := PickC
theorem ari_l_own_bag : Ari c_l_own_bag 1 := OwnC.ari
theorem ari_l_draw : Ari c_l_draw 2 := DrawC.ari
theorem ari_l_pick : Ari c_l_pick 2 := PickC.ari
inductive c_l_like (n : Nat) : Con where
  | mk {d : PyData} {Ω : Om} {Φ : PhiE} {Ξ : XA} : LikeOk n d → Φ (.d (.bool true)) Ω → c_l_like n [.d d, .d d] Ω Φ Ξ
theorem ari_l_like (n : Nat) : Ari (c_l_like n) 2 := by rintro _ _ _ _ ⟨_, _⟩; rfl
abbrev c_law : Con := LawC 63
theorem ari_law : Ari c_law 1 := LawC.ari
inductive c_is_number : Con where
  | mk {d : PyData} {Ω : Om} {Φ : PhiE} {Ξ : XA} : Φ (.d (.bool (isI d))) Ω → c_is_number [.d d] Ω Φ Ξ
theorem ari_is_number : Ari c_is_number 1 := by rintro _ _ _ _ ⟨_⟩; rfl
inductive c_is_within : Con where
  | mk {d : PyData} {lo hi : Int} {Ω : Om} {Φ : PhiE} {Ξ : XA} : Φ (.d (.bool (okW lo hi d))) Ω → c_is_within [.d d, I lo, I hi] Ω Φ Ξ
theorem ari_is_within : Ari c_is_within 3 := by rintro _ _ _ _ ⟨_⟩; rfl
inductive c_in_least_terms : Con where
  | mk {a b : Int} {Ω : Om} {Φ : PhiE} {Ξ : XA} : 0 ≤ a → 1 ≤ b → g2 a b ≤ B9 → Φ (.d (prd (least a b))) Ω → c_in_least_terms [I a, I b] Ω Φ Ξ
theorem ari_in_least_terms : Ari c_in_least_terms 2 := by rintro _ _ _ _ ⟨_⟩; rfl
inductive c_greedy_units : Con where
  | mk {x y : Int} {Ω : Om} {Φ : PhiE} {Ξ : XA} : Fx x y → Φ (T (isD (grW x y))) Ω → c_greedy_units [I x, I y] Ω Φ Ξ
theorem ari_greedy_units : Ari c_greedy_units 2 := by rintro _ _ _ _ ⟨_⟩; rfl
inductive c_units_sum : Con where
  | mk {is : List Int} {Ω : Om} {Φ : PhiE} {Ξ : XA} : Uv is → Φ (.d (prd (lv is))) Ω → c_units_sum [T (isD is)] Ω Φ Ξ
theorem ari_units_sum : Ari c_units_sum 1 := by rintro _ _ _ _ ⟨_⟩; rfl
inductive c_units_error : Con where
  | mk {x y : Int} {d : PyData} {Ω : Om} {Φ : PhiE} {Ξ : XA} : Fx x y → lenOk d → Φ (.d (due x y d)) Ω → c_units_error [I x, I y, .d d] Ω Φ Ξ
theorem ari_units_error : Ari c_units_error 3 := by rintro _ _ _ _ ⟨_⟩; rfl
inductive c_l_gcd : Con where
  | mk {a b : Int} {Ω : Om} {Φ : PhiE} {Ξ : XA} : 0 ≤ a → 0 ≤ b → Φ (I (g2 a b)) Ω → c_l_gcd [I a, I b] Ω Φ Ξ
theorem ari_l_gcd : Ari c_l_gcd 2 := by rintro _ _ _ _ ⟨_⟩; rfl
inductive c_l_great : Con where
  | mk {x : SV} {b : Int} {L R : Om} {Ω : Om} {Φ : PhiE} {Ξ : XA} : Bag x L R Ω → 1 ≤ b → b ≤ Mx → (∀ r Ω', 0 ≤ r → r < b → Bag x L R Ω' → Φ (I r) Ω') → c_l_great [x, I b] Ω Φ Ξ
theorem ari_l_great : Ari c_l_great 2 := by rintro _ _ _ _ ⟨_⟩; rfl
inductive c_l_most : Con where
  | mk  {Ω : Om} {Φ : PhiE} {Ξ : XA} : Φ (I Mx) Ω → c_l_most [] Ω Φ Ξ
theorem ari_l_most : Ari c_l_most 0 := by rintro _ _ _ _ ⟨_⟩; rfl
inductive c_l_add : Con where
  | mk {a b c d : Int} {Ω : Om} {Φ : PhiE} {Ξ : XA} : 1 ≤ b → 1 ≤ d → d ≤ B9 → Nat.gcd a.natAbs b.natAbs = 1 → Nat.gcd c.natAbs d.natAbs = 1 → Bg a → Bg b → Bg c → 0 ≤ a * d + c * b → Φ (.d (prd (least (a * d + c * b) (b * d)))) Ω → c_l_add [.d (prd (a, b)), .d (prd (c, d))] Ω Φ Ξ
theorem ari_l_add : Ari c_l_add 2 := by rintro _ _ _ _ ⟨_⟩; rfl
inductive c_l_sum : Con where
  | mk {is : List Int} {Ω : Om} {Φ : PhiE} {Ξ : XA} : Uv is → Φ (.d (prd (lv is))) Ω → c_l_sum [T (isD is)] Ω Φ Ξ
theorem ari_l_sum : Ari c_l_sum 1 := by rintro _ _ _ _ ⟨_⟩; rfl
inductive c_l_least : Con where
  | mk {a b : Int} {Ω : Om} {Φ : PhiE} {Ξ : XA} : 0 ≤ a → 1 ≤ b → b ≤ B9 → Φ (.d (prd (least a b))) Ω → c_l_least [I a, I b] Ω Φ Ξ
theorem ari_l_least : Ari c_l_least 2 := by rintro _ _ _ _ ⟨_⟩; rfl
inductive c_l_greedy : Con where
  | mk {x y : Int} {Ω : Om} {Φ : PhiE} {Ξ : XA} : Fx x y → Φ (T (isD (grW x y))) Ω → c_l_greedy [I x, I y] Ω Φ Ξ
theorem ari_l_greedy : Ari c_l_greedy 2 := by rintro _ _ _ _ ⟨_⟩; rfl
inductive c_l_fraction : Con where
  | mk {x : SV} {L R : Om} {Ω : Om} {Φ : PhiE} {Ξ : XA} : Bag x L R Ω → (∀ X Y Ω', Fx X Y → Bag x L R Ω' → Φ (.d (prd (X, Y))) Ω') → c_l_fraction [x] Ω Φ Ξ
theorem ari_l_fraction : Ari c_l_fraction 1 := by rintro _ _ _ _ ⟨_⟩; rfl
inductive c_l_put_apart : Con where
  | mk {x : SV} {is : List Int} {s : Int × Int} {m : Int} {L R : Om} {Ω : Om} {Φ : PhiE} {Ξ : XA} : Bag x L R Ω → Ap s is → is ≠ [] → is.length ≤ 20 → m ≤ 21 → (∀ js Ω', Ap s js → js ≠ [] → Bag x L R Ω' → Φ (T (isD js)) Ω') → c_l_put_apart [x, T (isD is), I m] Ω Φ Ξ
theorem ari_l_put_apart : Ari c_l_put_apart 3 := by rintro _ _ _ _ ⟨_⟩; rfl
inductive c_l_by_divisors : Con where
  | mk {x : SV} {L R : Om} {Ω : Om} {Φ : PhiE} {Ξ : XA} : Bag x L R Ω → (∀ X Y is Ω', Fx X Y → Au is → is ≠ [] → lv is = least X Y → Bag x L R Ω' → Φ (T [.int X, .int Y, .tuple (isD is)]) Ω') → c_l_by_divisors [x] Ω Φ Ξ
theorem ari_l_by_divisors : Ari c_l_by_divisors 1 := by rintro _ _ _ _ ⟨_⟩; rfl
inductive c_l_own_units : Con where
  | mk {x : SV} {L R : Om} {Ω : Om} {Φ : PhiE} {Ξ : XA} : Bag x L R Ω → (∀ is Ω', Au is → Bag x L R Ω' → Φ (T (isD is)) Ω') → c_l_own_units [x] Ω Φ Ξ
theorem ari_l_own_units : Ari c_l_own_units 1 := by rintro _ _ _ _ ⟨_⟩; rfl
inductive c_l_shape : Con where
  | mk {d : PyData} {Ω : Om} {Φ : PhiE} {Ξ : XA} : lenOk d → Φ (.d (shp d)) Ω → c_l_shape [.d d] Ω Φ Ξ
theorem ari_l_shape : Ari c_l_shape 1 := by rintro _ _ _ _ ⟨_⟩; rfl
inductive c_l_odd : Con where
  | mk {x : SV} {i : Int} {L R : Om} {Ω : Om} {Φ : PhiE} {Ξ : XA} : Bag x L R Ω → 1 ≤ i → i ≤ Mx → (∀ d b Ω', Rq 1 20100 b d → okI d = false → Bag x L R Ω' → Φ (.d d) Ω') → c_l_odd [x, I i] Ω Φ Ξ
theorem ari_l_odd : Ari c_l_odd 2 := by rintro _ _ _ _ ⟨_⟩; rfl
inductive c_l_spoilt : Con where
  | mk {x : SV} {is : List Int} {s : Int × Int} {L R : Om} {Ω : Om} {Φ : PhiE} {Ξ : XA} : Bag x L R Ω → Au is → is ≠ [] → s = lv is → (∀ l Ω', l.length ≤ 100 → (∀ e ∈ l, Vc e) → Bag x L R Ω' → Φ (.d (.list l)) Ω') → c_l_spoilt [x, T (isD is), .d (prd s)] Ω Φ Ξ
theorem ari_l_spoilt : Ari c_l_spoilt 3 := by rintro _ _ _ _ ⟨_⟩; rfl
inductive c_l_judges : Con where
  | mk {x : SV} {X Y : Int} {l : List PyData} {L R : Om} {Ω : Om} {Φ : PhiE} {Ξ : XA} : Bag x L R Ω → Fx X Y → l.length ≤ 100 → (∀ e ∈ l, Vc e) → (∀ Ω', Bag x L R Ω' → Φ (.d (.bool true)) Ω') → c_l_judges [x, I X, I Y, .d (.list l)] Ω Φ Ξ
theorem ari_l_judges : Ari c_l_judges 4 := by rintro _ _ _ _ ⟨_⟩; rfl
inductive c_l_split : Con where
  | mk {n : Int} {b : Bool} {Ω : Om} {Φ : PhiE} {Ξ : XA} : 1 ≤ n → n ≤ 1000 → (n ≠ 1 → Φ (.d (prd (n + 1, n * (n + 1)))) Ω) → (n = 1 → Φ (.d (.list [.bool true])) Ω) → c_l_split [I n, .d (.bool b)] Ω Φ Ξ
theorem ari_l_split : Ari c_l_split 2 := by rintro _ _ _ _ ⟨_⟩; rfl
inductive c_l_are_splits_right : Con where
  | mk {x : SV} {L R : Om} {Ω : Om} {Φ : PhiE} {Ξ : XA} : Bag x L R Ω → (∀ Ω', Bag x L R Ω' → Φ (.d (.bool true)) Ω') → c_l_are_splits_right [x] Ω Φ Ξ
theorem ari_l_are_splits_right : Ari c_l_are_splits_right 1 := by rintro _ _ _ _ ⟨_⟩; rfl
inductive c_l_is_greedy_right : Con where
  | mk {x : SV} {X Y : Int} {L R : Om} {Ω : Om} {Φ : PhiE} {Ξ : XA} : Bag x L R Ω → Fx X Y → (∀ Ω', Bag x L R Ω' → Φ (.d (.bool true)) Ω') → c_l_is_greedy_right [x, I X, I Y] Ω Φ Ξ
theorem ari_l_is_greedy_right : Ari c_l_is_greedy_right 3 := by rintro _ _ _ _ ⟨_⟩; rfl
end KK
namespace KK
open PySem PySem.Spec PyProof.Rows L2 Z
def topS (i : Nat) : Stmt := PySem.Challenge.pw_manybases_k91_whole_greedy_ends.main.body.getD i (.Pass ⟨0, 0, 0, 0⟩)
abbrev s_is_number : Stmt := topS 18
abbrev N_is_number : List Str := ["value"]
theorem sc_is_number : FnScope N_is_number ["value"] (defScope s_is_number) := ⟨rfl, rfl, rfl, by decide +kernel, rfl, by decide +kernel, by decide +kernel⟩
abbrev s_is_within : Stmt := topS 19
abbrev N_is_within : List Str := ["value", "least", "most"]
theorem sc_is_within : FnScope N_is_within ["value", "least", "most"] (defScope s_is_within) := ⟨rfl, rfl, rfl, by decide +kernel, rfl, by decide +kernel, by decide +kernel⟩
abbrev s_in_least_terms : Stmt := topS 21
abbrev N_in_least_terms : List Str := ["above", "below", "common"]
theorem sc_in_least_terms : FnScope N_in_least_terms ["above", "below"] (defScope s_in_least_terms) := ⟨rfl, rfl, rfl, by decide +kernel, rfl, by decide +kernel, by decide +kernel⟩
abbrev s_greedy_units : Stmt := topS 22
abbrev N_greedy_units : List Str := ["x", "y", "found", "unit"]
theorem sc_greedy_units : FnScope N_greedy_units ["x", "y"] (defScope s_greedy_units) := ⟨rfl, rfl, rfl, by decide +kernel, rfl, by decide +kernel, by decide +kernel⟩
abbrev s_units_sum : Stmt := topS 23
abbrev N_units_sum : List Str := ["units", "above", "below", "unit"]
theorem sc_units_sum : FnScope N_units_sum ["units"] (defScope s_units_sum) := ⟨rfl, rfl, rfl, by decide +kernel, rfl, by decide +kernel, by decide +kernel⟩
abbrev s_units_error : Stmt := topS 24
abbrev N_units_error : List Str := ["x", "y", "value", "place", "told", "item"]
theorem sc_units_error : FnScope N_units_error ["x", "y", "value"] (defScope s_units_error) := ⟨rfl, rfl, rfl, by decide +kernel, rfl, by decide +kernel, by decide +kernel⟩
abbrev s_split_unit : Stmt := topS 25
abbrev N_split_unit : List Str := ["n"]
theorem sc_split_unit : FnScope N_split_unit ["n"] (defScope s_split_unit) := ⟨rfl, rfl, rfl, by decide +kernel, rfl, by decide +kernel, by decide +kernel⟩
abbrev s_l_own_bag : Stmt := topS 27
abbrev N_l_own_bag : List Str := ["script", "cells", "mixed", "cell"]
theorem sc_l_own_bag : FnScope N_l_own_bag ["script"] (defScope s_l_own_bag) := ⟨rfl, rfl, rfl, by decide +kernel, rfl, by decide +kernel, by decide +kernel⟩
abbrev s_l_draw : Stmt := topS 28
abbrev N_l_draw : List Str := ["bag", "below", "cell", "found"]
theorem sc_l_draw : FnScope N_l_draw ["bag", "below"] (defScope s_l_draw) := ⟨rfl, rfl, rfl, by decide +kernel, rfl, by decide +kernel, by decide +kernel⟩
abbrev s_l_pick : Stmt := topS 29
abbrev N_l_pick : List Str := ["bag", "some"]
theorem sc_l_pick : FnScope N_l_pick ["bag", "some"] (defScope s_l_pick) := ⟨rfl, rfl, rfl, by decide +kernel, rfl, by decide +kernel, by decide +kernel⟩
abbrev s_l_like : Stmt := topS 30
abbrev N_l_like : List Str := ["found", "due", "k"]
theorem sc_l_like : FnScope N_l_like ["found", "due"] (defScope s_l_like) := ⟨rfl, rfl, rfl, by decide +kernel, rfl, by decide +kernel, by decide +kernel⟩
abbrev s_l_gcd : Stmt := topS 31
abbrev N_l_gcd : List Str := ["one", "other"]
theorem sc_l_gcd : FnScope N_l_gcd ["one", "other"] (defScope s_l_gcd) := ⟨rfl, rfl, rfl, by decide +kernel, rfl, by decide +kernel, by decide +kernel⟩
abbrev s_l_great : Stmt := topS 32
abbrev N_l_great : List Str := ["bag", "below", "found"]
theorem sc_l_great : FnScope N_l_great ["bag", "below"] (defScope s_l_great) := ⟨rfl, rfl, rfl, by decide +kernel, rfl, by decide +kernel, by decide +kernel⟩
abbrev s_l_most : Stmt := topS 33
abbrev N_l_most : List Str := []
theorem sc_l_most : FnScope N_l_most [] (defScope s_l_most) := ⟨rfl, rfl, rfl, by decide +kernel, rfl, by decide +kernel, by decide +kernel⟩
abbrev s_l_add : Stmt := topS 34
abbrev N_l_add : List Str := ["one", "other", "first", "above", "second"]
theorem sc_l_add : FnScope N_l_add ["one", "other"] (defScope s_l_add) := ⟨rfl, rfl, rfl, by decide +kernel, rfl, by decide +kernel, by decide +kernel⟩
abbrev s_l_sum : Stmt := topS 35
abbrev N_l_sum : List Str := ["units", "total", "item"]
theorem sc_l_sum : FnScope N_l_sum ["units"] (defScope s_l_sum) := ⟨rfl, rfl, rfl, by decide +kernel, rfl, by decide +kernel, by decide +kernel⟩
abbrev s_l_least : Stmt := topS 36
abbrev N_l_least : List Str := ["x", "y", "common"]
theorem sc_l_least : FnScope N_l_least ["x", "y"] (defScope s_l_least) := ⟨rfl, rfl, rfl, by decide +kernel, rfl, by decide +kernel, by decide +kernel⟩
abbrev s_l_greedy : Stmt := topS 37
abbrev N_l_greedy : List Str := ["x", "y", "above", "below", "found", "item"]
theorem sc_l_greedy : FnScope N_l_greedy ["x", "y"] (defScope s_l_greedy) := ⟨rfl, rfl, rfl, by decide +kernel, rfl, by decide +kernel, by decide +kernel⟩
abbrev s_l_fraction : Stmt := topS 38
abbrev N_l_fraction : List Str := ["bag", "y"]
theorem sc_l_fraction : FnScope N_l_fraction ["bag"] (defScope s_l_fraction) := ⟨rfl, rfl, rfl, by decide +kernel, rfl, by decide +kernel, by decide +kernel⟩
abbrev s_l_put_apart : Stmt := topS 39
abbrev N_l_put_apart : List Str := ["bag", "units", "many", "row", "turn", "may", "a", "item"]
theorem sc_l_put_apart : FnScope N_l_put_apart ["bag", "units", "many"] (defScope s_l_put_apart) := ⟨rfl, rfl, rfl, by decide +kernel, rfl, by decide +kernel, by decide +kernel⟩
abbrev s_l_by_divisors : Stmt := topS 40
abbrev N_l_by_divisors : List Str := ["bag", "y", "left", "row", "d"]
theorem sc_l_by_divisors : FnScope N_l_by_divisors ["bag"] (defScope s_l_by_divisors) := ⟨rfl, rfl, rfl, by decide +kernel, rfl, by decide +kernel, by decide +kernel⟩
abbrev s_l_own_units : Stmt := topS 41
abbrev N_l_own_units : List Str := ["bag", "many", "top", "row", "last", "turn"]
theorem sc_l_own_units : FnScope N_l_own_units ["bag"] (defScope s_l_own_units) := ⟨rfl, rfl, rfl, by decide +kernel, rfl, by decide +kernel, by decide +kernel⟩
abbrev s_l_shape : Stmt := topS 42
abbrev N_l_shape : List Str := ["value", "item", "j"]
theorem sc_l_shape : FnScope N_l_shape ["value"] (defScope s_l_shape) := ⟨rfl, rfl, rfl, by decide +kernel, rfl, by decide +kernel, by decide +kernel⟩
abbrev s_l_odd : Stmt := topS 43
abbrev N_l_odd : List Str := ["bag", "item", "most"]
theorem sc_l_odd : FnScope N_l_odd ["bag", "item"] (defScope s_l_odd) := ⟨rfl, rfl, rfl, by decide +kernel, rfl, by decide +kernel, by decide +kernel⟩
abbrev s_l_spoilt : Stmt := topS 44
abbrev N_l_spoilt : List Str := ["bag", "u", "s", "many", "at", "less", "v", "changed", "odd", "found", "k", "turned", "more"]
theorem sc_l_spoilt : FnScope N_l_spoilt ["bag", "u", "s"] (defScope s_l_spoilt) := ⟨rfl, rfl, rfl, by decide +kernel, rfl, by decide +kernel, by decide +kernel⟩
abbrev s_l_judges : Stmt := topS 45
abbrev N_l_judges : List Str := ["bag", "x", "y", "cases", "k", "value", "total", "shape", "kept", "due", "told"]
theorem sc_l_judges : FnScope N_l_judges ["bag", "x", "y", "cases"] (defScope s_l_judges) := ⟨rfl, rfl, rfl, by decide +kernel, rfl, by decide +kernel, by decide +kernel⟩
abbrev s_l_is_lone : Stmt := topS 46
abbrev N_l_is_lone : List Str := ["error"]
theorem sc_l_is_lone : FnScope N_l_is_lone ["error"] (defScope s_l_is_lone) := ⟨rfl, rfl, rfl, by decide +kernel, rfl, by decide +kernel, by decide +kernel⟩
abbrev s_l_split : Stmt := topS 47
abbrev N_l_split : List Str := ["n", "is_named", "error"]
theorem sc_l_split : FnScope N_l_split ["n", "is_named"] (defScope s_l_split) := ⟨rfl, rfl, rfl, by decide +kernel, rfl, by decide +kernel, by decide +kernel⟩
abbrev s_l_are_splits_right : Stmt := topS 48
abbrev N_l_are_splits_right : List Str := ["bag", "n", "told"]
theorem sc_l_are_splits_right : FnScope N_l_are_splits_right ["bag"] (defScope s_l_are_splits_right) := ⟨rfl, rfl, rfl, by decide +kernel, rfl, by decide +kernel, by decide +kernel⟩
abbrev s_l_is_greedy_right : Stmt := topS 49
abbrev N_l_is_greedy_right : List Str := ["bag", "x", "y", "due", "s", "m", "apart", "cases", "other"]
theorem sc_l_is_greedy_right : FnScope N_l_is_greedy_right ["bag", "x", "y"] (defScope s_l_is_greedy_right) := ⟨rfl, rfl, rfl, by decide +kernel, rfl, by decide +kernel, by decide +kernel⟩
abbrev s_law : Stmt := topS 50
abbrev N_law : List Str := ["script", "bag", "first", "x", "y", "units", "total", "second"]
theorem sc_law : FnScope N_law ["script"] (defScope s_law) := ⟨rfl, rfl, rfl, by decide +kernel, rfl, by decide +kernel, by decide +kernel⟩
structure Top (K : PySem.W.Frag) (mg : Str → Option Value) where
  cl : Cls
  g_BaseError : mg "BaseError" = some (.ref cl.BaseError)
  g_Unfit : mg "Unfit" = some (.ref cl.Unfit)
  g_TooMany : mg "TooMany" = some (.ref cl.TooMany)
  g_BadText : mg "BadText" = some (.ref cl.BadText)
  g_BadWord : mg "BadWord" = some (.ref cl.BadWord)
  g_BadLog : mg "BadLog" = some (.ref cl.BadLog)
  g_Refused : mg "Refused" = some (.ref cl.Refused)
  g_NothingToUndo : mg "NothingToUndo" = some (.ref cl.NothingToUndo)
  g_NothingToRedo : mg "NothingToRedo" = some (.ref cl.NothingToRedo)
  g_NoName : mg "NoName" = some (.ref cl.NoName)
  g_NoVersion : mg "NoVersion" = some (.ref cl.NoVersion)
  xi_Unfit : PySem.W.excIn K cl.Unfit [.type "ValueError", .type "Exception", .type "BaseException", .type "object"] "ValueError.__new__" = true
  kp_Unfit : PySem.W.keepIn K (.ref cl.Unfit) = true
  be_Unfit : PySem.W.subIn K (.ref cl.Unfit) (.type "BaseException") = some true
  ty_Unfit : PySem.W.typeIn K (.ref cl.Unfit) = some (.type "type")
  ec_Unfit : ExcC K cl.Unfit
  ex_Unfit_BaseError : PySem.W.exmOne K (.ref cl.Unfit) (.ref cl.BaseError) = some true
  is_Unfit_BadLog : PySem.W.kitOne K (.ref cl.Unfit) (.ref cl.BadLog) = some false
  is_Unfit_BadText : PySem.W.kitOne K (.ref cl.Unfit) (.ref cl.BadText) = some false
  is_Unfit_BadWord : PySem.W.kitOne K (.ref cl.Unfit) (.ref cl.BadWord) = some false
  is_Unfit_BaseError : PySem.W.kitOne K (.ref cl.Unfit) (.ref cl.BaseError) = some true
  is_Unfit_NoName : PySem.W.kitOne K (.ref cl.Unfit) (.ref cl.NoName) = some false
  is_Unfit_NoVersion : PySem.W.kitOne K (.ref cl.Unfit) (.ref cl.NoVersion) = some false
  is_Unfit_NothingToRedo : PySem.W.kitOne K (.ref cl.Unfit) (.ref cl.NothingToRedo) = some false
  is_Unfit_NothingToUndo : PySem.W.kitOne K (.ref cl.Unfit) (.ref cl.NothingToUndo) = some false
  is_Unfit_Refused : PySem.W.kitOne K (.ref cl.Unfit) (.ref cl.Refused) = some false
  is_Unfit_TooMany : PySem.W.kitOne K (.ref cl.Unfit) (.ref cl.TooMany) = some false
  is_Unfit_Unfit : PySem.W.kitOne K (.ref cl.Unfit) (.ref cl.Unfit) = some true
  is_Unfit_ValueError : PySem.W.kitOne K (.ref cl.Unfit) (.type "ValueError") = some true
  f_is_number : Addr
  fd_is_number : FuncData
  F_is_number : Fun K "is_number" "is_number" s_is_number f_is_number fd_is_number
  m_is_number : mg "is_number" = some (.ref f_is_number)
  f_is_within : Addr
  fd_is_within : FuncData
  F_is_within : Fun K "is_within" "is_within" s_is_within f_is_within fd_is_within
  m_is_within : mg "is_within" = some (.ref f_is_within)
  f_in_least_terms : Addr
  fd_in_least_terms : FuncData
  F_in_least_terms : Fun K "in_least_terms" "in_least_terms" s_in_least_terms f_in_least_terms fd_in_least_terms
  m_in_least_terms : mg "in_least_terms" = some (.ref f_in_least_terms)
  f_greedy_units : Addr
  fd_greedy_units : FuncData
  F_greedy_units : Fun K "greedy_units" "greedy_units" s_greedy_units f_greedy_units fd_greedy_units
  m_greedy_units : mg "greedy_units" = some (.ref f_greedy_units)
  f_units_sum : Addr
  fd_units_sum : FuncData
  F_units_sum : Fun K "units_sum" "units_sum" s_units_sum f_units_sum fd_units_sum
  m_units_sum : mg "units_sum" = some (.ref f_units_sum)
  f_units_error : Addr
  fd_units_error : FuncData
  F_units_error : Fun K "units_error" "units_error" s_units_error f_units_error fd_units_error
  m_units_error : mg "units_error" = some (.ref f_units_error)
  f_split_unit : Addr
  fd_split_unit : FuncData
  F_split_unit : Fun K "split_unit" "split_unit" s_split_unit f_split_unit fd_split_unit
  m_split_unit : mg "split_unit" = some (.ref f_split_unit)
  f_l_own_bag : Addr
  fd_l_own_bag : FuncData
  F_l_own_bag : Fun K "_law_own_bag" "_law_own_bag" s_l_own_bag f_l_own_bag fd_l_own_bag
  m_l_own_bag : mg "_law_own_bag" = some (.ref f_l_own_bag)
  f_l_draw : Addr
  fd_l_draw : FuncData
  F_l_draw : Fun K "_law_draw" "_law_draw" s_l_draw f_l_draw fd_l_draw
  m_l_draw : mg "_law_draw" = some (.ref f_l_draw)
  f_l_pick : Addr
  fd_l_pick : FuncData
  F_l_pick : Fun K "_law_pick" "_law_pick" s_l_pick f_l_pick fd_l_pick
  m_l_pick : mg "_law_pick" = some (.ref f_l_pick)
  f_l_like : Addr
  fd_l_like : FuncData
  F_l_like : Fun K "_law_like" "_law_like" s_l_like f_l_like fd_l_like
  m_l_like : mg "_law_like" = some (.ref f_l_like)
  f_l_gcd : Addr
  fd_l_gcd : FuncData
  F_l_gcd : Fun K "_law_gcd" "_law_gcd" s_l_gcd f_l_gcd fd_l_gcd
  m_l_gcd : mg "_law_gcd" = some (.ref f_l_gcd)
  f_l_great : Addr
  fd_l_great : FuncData
  F_l_great : Fun K "_law_great" "_law_great" s_l_great f_l_great fd_l_great
  m_l_great : mg "_law_great" = some (.ref f_l_great)
  f_l_most : Addr
  fd_l_most : FuncData
  F_l_most : Fun K "_law_most" "_law_most" s_l_most f_l_most fd_l_most
  m_l_most : mg "_law_most" = some (.ref f_l_most)
  f_l_add : Addr
  fd_l_add : FuncData
  F_l_add : Fun K "_law_add" "_law_add" s_l_add f_l_add fd_l_add
  m_l_add : mg "_law_add" = some (.ref f_l_add)
  f_l_sum : Addr
  fd_l_sum : FuncData
  F_l_sum : Fun K "_law_sum" "_law_sum" s_l_sum f_l_sum fd_l_sum
  m_l_sum : mg "_law_sum" = some (.ref f_l_sum)
  f_l_least : Addr
  fd_l_least : FuncData
  F_l_least : Fun K "_law_least" "_law_least" s_l_least f_l_least fd_l_least
  m_l_least : mg "_law_least" = some (.ref f_l_least)
  f_l_greedy : Addr
  fd_l_greedy : FuncData
  F_l_greedy : Fun K "_law_greedy" "_law_greedy" s_l_greedy f_l_greedy fd_l_greedy
  m_l_greedy : mg "_law_greedy" = some (.ref f_l_greedy)
  f_l_fraction : Addr
  fd_l_fraction : FuncData
  F_l_fraction : Fun K "_law_fraction" "_law_fraction" s_l_fraction f_l_fraction fd_l_fraction
  m_l_fraction : mg "_law_fraction" = some (.ref f_l_fraction)
  f_l_put_apart : Addr
  fd_l_put_apart : FuncData
  F_l_put_apart : Fun K "_law_put_apart" "_law_put_apart" s_l_put_apart f_l_put_apart fd_l_put_apart
  m_l_put_apart : mg "_law_put_apart" = some (.ref f_l_put_apart)
  f_l_by_divisors : Addr
  fd_l_by_divisors : FuncData
  F_l_by_divisors : Fun K "_law_by_divisors" "_law_by_divisors" s_l_by_divisors f_l_by_divisors fd_l_by_divisors
  m_l_by_divisors : mg "_law_by_divisors" = some (.ref f_l_by_divisors)
  f_l_own_units : Addr
  fd_l_own_units : FuncData
  F_l_own_units : Fun K "_law_own_units" "_law_own_units" s_l_own_units f_l_own_units fd_l_own_units
  m_l_own_units : mg "_law_own_units" = some (.ref f_l_own_units)
  f_l_shape : Addr
  fd_l_shape : FuncData
  F_l_shape : Fun K "_law_shape" "_law_shape" s_l_shape f_l_shape fd_l_shape
  m_l_shape : mg "_law_shape" = some (.ref f_l_shape)
  f_l_odd : Addr
  fd_l_odd : FuncData
  F_l_odd : Fun K "_law_odd" "_law_odd" s_l_odd f_l_odd fd_l_odd
  m_l_odd : mg "_law_odd" = some (.ref f_l_odd)
  f_l_spoilt : Addr
  fd_l_spoilt : FuncData
  F_l_spoilt : Fun K "_law_spoilt" "_law_spoilt" s_l_spoilt f_l_spoilt fd_l_spoilt
  m_l_spoilt : mg "_law_spoilt" = some (.ref f_l_spoilt)
  f_l_judges : Addr
  fd_l_judges : FuncData
  F_l_judges : Fun K "_law_judges" "_law_judges" s_l_judges f_l_judges fd_l_judges
  m_l_judges : mg "_law_judges" = some (.ref f_l_judges)
  f_l_is_lone : Addr
  fd_l_is_lone : FuncData
  F_l_is_lone : Fun K "_law_is_lone" "_law_is_lone" s_l_is_lone f_l_is_lone fd_l_is_lone
  m_l_is_lone : mg "_law_is_lone" = some (.ref f_l_is_lone)
  f_l_split : Addr
  fd_l_split : FuncData
  F_l_split : Fun K "_law_split" "_law_split" s_l_split f_l_split fd_l_split
  m_l_split : mg "_law_split" = some (.ref f_l_split)
  f_l_are_splits_right : Addr
  fd_l_are_splits_right : FuncData
  F_l_are_splits_right : Fun K "_law_are_splits_right" "_law_are_splits_right" s_l_are_splits_right f_l_are_splits_right fd_l_are_splits_right
  m_l_are_splits_right : mg "_law_are_splits_right" = some (.ref f_l_are_splits_right)
  f_l_is_greedy_right : Addr
  fd_l_is_greedy_right : FuncData
  F_l_is_greedy_right : Fun K "_law_is_greedy_right" "_law_is_greedy_right" s_l_is_greedy_right f_l_is_greedy_right fd_l_is_greedy_right
  m_l_is_greedy_right : mg "_law_is_greedy_right" = some (.ref f_l_is_greedy_right)
  f_law : Addr
  fd_law : FuncData
  F_law : Fun K "law" "law" s_law f_law fd_law
  m_law : mg "law" = some (.ref f_law)
  t_MAX_BELOW : Tok
  m_MAX_BELOW : mg "MAX_BELOW" = some (.int 1000 t_MAX_BELOW)
  t_MAX_UNIT : Tok
  m_MAX_UNIT : mg "MAX_UNIT" = some (.int 100 t_MAX_UNIT)
  t_MAX_UNITS : Tok
  m_MAX_UNITS : mg "MAX_UNITS" = some (.int 20 t_MAX_UNITS)
  t_MAX_UNIT_ITEM : Tok
  m_MAX_UNIT_ITEM : mg "MAX_UNIT_ITEM" = some (.int 10000000000000000000000000000000000000000000000000000000000000000000000000000000000000000000000000000000000000000000000000000000000000000000000000000000000000000 t_MAX_UNIT_ITEM)
  i_gcd : mg "gcd" = some (.builtin "math.gcd")
  n_ValueError : mg "ValueError" = none
  n_abs : mg "abs" = none
  n_all : mg "all" = none
  n_bool : mg "bool" = none
  n_enumerate : mg "enumerate" = none
  n_int : mg "int" = none
  n_isinstance : mg "isinstance" = none
  n_len : mg "len" = none
  n_list : mg "list" = none
  n_max : mg "max" = none
  n_range : mg "range" = none
  n_repr : mg "repr" = none
  n_reversed : mg "reversed" = none
  n_sorted : mg "sorted" = none
  n_str : mg "str" = none
  n_tuple : mg "tuple" = none
section
variable {K : PySem.W.Frag} {mg : Str → Option Value}
theorem b_is_number (T : Top K mg) : Binds K T.fd_is_number ["value"] [] := T.F_is_number.binds (ps := ["value"]) fun _ _ _ _ _ _ us hl => match us, hl with | [_], _ => rfl
theorem b_is_within (T : Top K mg) : Binds K T.fd_is_within ["value", "least", "most"] [] := T.F_is_within.binds (ps := ["value", "least", "most"]) fun _ _ _ _ _ _ us hl => match us, hl with | [_, _, _], _ => rfl
theorem b_in_least_terms (T : Top K mg) : Binds K T.fd_in_least_terms ["above", "below"] [] := T.F_in_least_terms.binds (ps := ["above", "below"]) fun _ _ _ _ _ _ us hl => match us, hl with | [_, _], _ => rfl
theorem b_greedy_units (T : Top K mg) : Binds K T.fd_greedy_units ["x", "y"] [] := T.F_greedy_units.binds (ps := ["x", "y"]) fun _ _ _ _ _ _ us hl => match us, hl with | [_, _], _ => rfl
theorem b_units_sum (T : Top K mg) : Binds K T.fd_units_sum ["units"] [] := T.F_units_sum.binds (ps := ["units"]) fun _ _ _ _ _ _ us hl => match us, hl with | [_], _ => rfl
theorem b_units_error (T : Top K mg) : Binds K T.fd_units_error ["x", "y", "value"] [] := T.F_units_error.binds (ps := ["x", "y", "value"]) fun _ _ _ _ _ _ us hl => match us, hl with | [_, _, _], _ => rfl
theorem b_split_unit (T : Top K mg) : Binds K T.fd_split_unit ["n"] [] := T.F_split_unit.binds (ps := ["n"]) fun _ _ _ _ _ _ us hl => match us, hl with | [_], _ => rfl
theorem b_l_own_bag (T : Top K mg) : Binds K T.fd_l_own_bag ["script"] [] := T.F_l_own_bag.binds (ps := ["script"]) fun _ _ _ _ _ _ us hl => match us, hl with | [_], _ => rfl
theorem b_l_draw (T : Top K mg) : Binds K T.fd_l_draw ["bag", "below"] [] := T.F_l_draw.binds (ps := ["bag", "below"]) fun _ _ _ _ _ _ us hl => match us, hl with | [_, _], _ => rfl
theorem b_l_pick (T : Top K mg) : Binds K T.fd_l_pick ["bag", "some"] [] := T.F_l_pick.binds (ps := ["bag", "some"]) fun _ _ _ _ _ _ us hl => match us, hl with | [_, _], _ => rfl
theorem b_l_like (T : Top K mg) : Binds K T.fd_l_like ["found", "due"] [] := T.F_l_like.binds (ps := ["found", "due"]) fun _ _ _ _ _ _ us hl => match us, hl with | [_, _], _ => rfl
theorem b_l_gcd (T : Top K mg) : Binds K T.fd_l_gcd ["one", "other"] [] := T.F_l_gcd.binds (ps := ["one", "other"]) fun _ _ _ _ _ _ us hl => match us, hl with | [_, _], _ => rfl
theorem b_l_great (T : Top K mg) : Binds K T.fd_l_great ["bag", "below"] [] := T.F_l_great.binds (ps := ["bag", "below"]) fun _ _ _ _ _ _ us hl => match us, hl with | [_, _], _ => rfl
theorem b_l_most (T : Top K mg) : Binds K T.fd_l_most [] [] := T.F_l_most.binds (ps := []) fun _ _ _ _ _ _ us hl => match us, hl with | [], _ => rfl
theorem b_l_add (T : Top K mg) : Binds K T.fd_l_add ["one", "other"] [] := T.F_l_add.binds (ps := ["one", "other"]) fun _ _ _ _ _ _ us hl => match us, hl with | [_, _], _ => rfl
theorem b_l_sum (T : Top K mg) : Binds K T.fd_l_sum ["units"] [] := T.F_l_sum.binds (ps := ["units"]) fun _ _ _ _ _ _ us hl => match us, hl with | [_], _ => rfl
theorem b_l_least (T : Top K mg) : Binds K T.fd_l_least ["x", "y"] [] := T.F_l_least.binds (ps := ["x", "y"]) fun _ _ _ _ _ _ us hl => match us, hl with | [_, _], _ => rfl
theorem b_l_greedy (T : Top K mg) : Binds K T.fd_l_greedy ["x", "y"] [] := T.F_l_greedy.binds (ps := ["x", "y"]) fun _ _ _ _ _ _ us hl => match us, hl with | [_, _], _ => rfl
theorem b_l_fraction (T : Top K mg) : Binds K T.fd_l_fraction ["bag"] [] := T.F_l_fraction.binds (ps := ["bag"]) fun _ _ _ _ _ _ us hl => match us, hl with | [_], _ => rfl
theorem b_l_put_apart (T : Top K mg) : Binds K T.fd_l_put_apart ["bag", "units", "many"] [] := T.F_l_put_apart.binds (ps := ["bag", "units", "many"]) fun _ _ _ _ _ _ us hl => match us, hl with | [_, _, _], _ => rfl
theorem b_l_by_divisors (T : Top K mg) : Binds K T.fd_l_by_divisors ["bag"] [] := T.F_l_by_divisors.binds (ps := ["bag"]) fun _ _ _ _ _ _ us hl => match us, hl with | [_], _ => rfl
theorem b_l_own_units (T : Top K mg) : Binds K T.fd_l_own_units ["bag"] [] := T.F_l_own_units.binds (ps := ["bag"]) fun _ _ _ _ _ _ us hl => match us, hl with | [_], _ => rfl
theorem b_l_shape (T : Top K mg) : Binds K T.fd_l_shape ["value"] [] := T.F_l_shape.binds (ps := ["value"]) fun _ _ _ _ _ _ us hl => match us, hl with | [_], _ => rfl
theorem b_l_odd (T : Top K mg) : Binds K T.fd_l_odd ["bag", "item"] [] := T.F_l_odd.binds (ps := ["bag", "item"]) fun _ _ _ _ _ _ us hl => match us, hl with | [_, _], _ => rfl
theorem b_l_spoilt (T : Top K mg) : Binds K T.fd_l_spoilt ["bag", "u", "s"] [] := T.F_l_spoilt.binds (ps := ["bag", "u", "s"]) fun _ _ _ _ _ _ us hl => match us, hl with | [_, _, _], _ => rfl
theorem b_l_judges (T : Top K mg) : Binds K T.fd_l_judges ["bag", "x", "y", "cases"] [] := T.F_l_judges.binds (ps := ["bag", "x", "y", "cases"]) fun _ _ _ _ _ _ us hl => match us, hl with | [_, _, _, _], _ => rfl
theorem b_l_is_lone (T : Top K mg) : Binds K T.fd_l_is_lone ["error"] [] := T.F_l_is_lone.binds (ps := ["error"]) fun _ _ _ _ _ _ us hl => match us, hl with | [_], _ => rfl
theorem b_l_split (T : Top K mg) : Binds K T.fd_l_split ["n", "is_named"] [] := T.F_l_split.binds (ps := ["n", "is_named"]) fun _ _ _ _ _ _ us hl => match us, hl with | [_, _], _ => rfl
theorem b_l_are_splits_right (T : Top K mg) : Binds K T.fd_l_are_splits_right ["bag"] [] := T.F_l_are_splits_right.binds (ps := ["bag"]) fun _ _ _ _ _ _ us hl => match us, hl with | [_], _ => rfl
theorem b_l_is_greedy_right (T : Top K mg) : Binds K T.fd_l_is_greedy_right ["bag", "x", "y"] [] := T.F_l_is_greedy_right.binds (ps := ["bag", "x", "y"]) fun _ _ _ _ _ _ us hl => match us, hl with | [_, _, _], _ => rfl
theorem b_law (T : Top K mg) : Binds K T.fd_law ["script"] [] := T.F_law.binds (ps := ["script"]) fun _ _ _ _ _ _ us hl => match us, hl with | [_], _ => rfl
end
def a_is_number (Cl : Cls) (Fr : Addr → Prop) : AS :=
    (aRet (aAndV (aCB (ac2 fIsi) (aCons (aVar 0) (aCons (aC (.r (.ty "int"))) aNil))) (aNotV (aCB (ac2 fIsi) (aCons (aVar 0) (aCons (aC (.r (.ty "bool"))) aNil))))))
def a_is_within (Cl : Cls) (Fr : Addr → Prop) : AS :=
    (aRet (aAndV (aCall c_is_number xno (aCons (aVar 0) aNil)) (aChain arLe arLe (aVar 1) (aVar 0) (aVar 2))))
def a_in_least_terms (Cl : Cls) (Fr : Addr → Prop) : AS :=
    (aSeq (aAsg (aCB (ac2 (fI2 fun i j => ((Nat.gcd i.natAbs j.natAbs : Nat) : Int))) (aCons (aVar 0) (aCons (aVar 1) aNil))) (gN 2))
    (aRet (aTup (aCons (aBin arDiv (aVar 0) (aVar 2)) (aCons (aBin arDiv (aVar 1) (aVar 2)) aNil)))))
def a_greedy_units (Cl : Cls) (Fr : Addr → Prop) : AS :=
    (aSeq (aAsg (aLst (some Fr) aNil) (gN 2))
    (aSeq (aWhile (aB (aBin arGt (aVar 0) (aC (.d (.int 0))))) (aSeq (aAsg (aUn arNeg (aBin arDiv (aUn arNeg (aVar 1)) (aVar 0))) (gN 3))
    (aSeq (aExp (aMl amAppend (aVar 2) (aCons (aVar 3) aNil)))
    (aAsg (aCall c_in_least_terms xno (aCons (aBin arSub (aBin arMul (aVar 0) (aVar 3)) (aVar 1)) (aCons (aBin arMul (aVar 1) (aVar 3)) aNil))) (gT 2 (gs1 (gN 0) (gs1 (gN 1) gs0)))))))
    (aRetD (aCB acTupOf (aCons (aVar 2) aNil)))))
def a_units_sum (Cl : Cls) (Fr : Addr → Prop) : AS :=
    (aSeq (aAsg (aTup (aCons (aC (.d (.int 0))) (aCons (aC (.d (.int 1))) aNil))) (gT 2 (gs1 (gN 1) (gs1 (gN 2) gs0))))
    (aSeq (aFor (aIt (aVar 0)) (gN 3) (aAsg (aCall c_in_least_terms xno (aCons (aBin (arAdd none) (aBin arMul (aVar 1) (aVar 3)) (aVar 2)) (aCons (aBin arMul (aVar 2) (aVar 3)) aNil))) (gT 2 (gs1 (gN 1) (gs1 (gN 2) gs0)))))
    (aRet (aTup (aCons (aVar 1) (aCons (aVar 2) aNil))))))
def a_units_error (Cl : Cls) (Fr : Addr → Prop) : AS :=
    (aSeq (aIf (aOr (aNot (aTru (aCB (ac2 fIsi) (aCons (aVar 2) (aCons (aC (.r (.ty "tuple"))) aNil))))) (aB (aBin arGt (aCB acLen (aCons (aVar 2) aNil)) (aC (.d (.int 20)))))) (aRet (aC (.d (.str "form")))) aNx)
    (aSeq (aIf (aNot (aTru (aCB (ac1 fAll) (aCons (aLc2 none (aIt (aVar 2)) (gN 5) aYes (aCall c_is_within xno (aCons (aVar 5) (aCons (aC (.d (.int 1))) (aCons (aC (.d (.int 10000000000000000000000000000000000000000000000000000000000000000000000000000000000000000000000000000000000000000000000000000000000000000000000000000000000000000))) aNil)))) [5]) aNil)))) (aRet (aC (.d (.str "form")))) aNx)
    (aSeq (aFor (aRng2 (aCons (aC (.d (.int 1))) (aCons (aCB acLen (aCons (aVar 2) aNil)) aNil))) (gN 3) (aIf (aB (aBin arLe (aBin arIx (aVar 2) (aVar 3)) (aBin arIx (aVar 2) (aBin arSub (aVar 3) (aC (.d (.int 1))))))) (aRet (aTup (aCons (aC (.d (.str "order"))) (aCons (aVar 3) aNil)))) aNx))
    (aSeq (aAsg (aCall c_units_sum xno (aCons (aVar 2) aNil)) (gN 4))
    (aRet (aIfE (aB (aBin arEq (aVar 4) (aCall c_in_least_terms xno (aCons (aVar 0) (aCons (aVar 1) aNil))))) (aC (.d .none)) (aTup (aCons (aC (.d (.str "sum"))) (aCons (aVar 4) aNil)))))))))
def a_split_unit (Cl : Cls) (Fr : Addr → Prop) (Ξ : XA) : AS :=
    (aSeq (aIf (aB (aBin arEq (aVar 0) (aC (.d (.int 1))))) (aRaise (fun _ => Ξ) (.ref Cl.Unfit)) aNx)
    (aRet (aTup (aCons (aBin (arAdd none) (aVar 0) (aC (.d (.int 1)))) (aCons (aBin arMul (aVar 0) (aBin (arAdd none) (aVar 0) (aC (.d (.int 1))))) aNil)))))
def a_l_own_bag (Cl : Cls) (Fr : Addr → Prop) : AS :=
    (aSeq (aAsg (aLc2 none (aIt (aSl none (aVar 0) aNoP (aPart (aC (.d (.int 63)))))) (gN 3) aYes (aCB acAbs (aCons (aVar 3) aNil)) [3]) (gN 1))
    (aSeq (aAsg (aBin (arAdd none) (aC (.d (.int 9100))) (aCB acLen (aCons (aVar 1) aNil))) (gN 2))
    (aSeq (aFor (aIt (aVar 1)) (gN 3) (aAsg (aBin arMod (aCB acInt (aCons (aBin (arAdd none) (aBin (arAdd none) (aBin arMul (aVar 2) (aC (.d (.int 48271)))) (aBin arMod (aCB acInt (aCons (aVar 3) aNil)) (aC (.d (.int 2147483629))))) (aC (.d (.int 7)))) aNil)) (aC (.d (.int 2147483647)))) (gN 2)))
    (aRet (aLst (some Fr) (aCons (aLstRev (some Fr) (aCB (acLstOf none) (aCons (aVar 1) aNil))) (aCons (aC (.d (.int 0))) (aCons (aVar 2) aNil))))))))
def a_l_draw (Cl : Cls) (Fr : Addr → Prop) : AS :=
    (aSeq (aWhile (aAnd (aB (aBin arEq (aBin arIx (aVar 0) (aC (.d (.int 1)))) (aC (.d (.int 0))))) (aB (aBin arNe (aBin arIx (aVar 0) (aC (.d (.int 0)))) (aLst none aNil)))) (aSeq (aAsg (aMl0 amPop (aBin arIx (aVar 0) (aC (.d (.int 0))))) (gN 2))
    (aSetIx (aIfE (aB (aBin arGt (aVar 2) (aBin arPow (aC (.d (.int 10))) (aC (.d (.int 9)))))) (aVar 2) (aC (.d (.int 0)))) (aVar 0) (aC (.d (.int 1))))))
    (aSeq (aIf (aB (aBin arGt (aBin arIx (aVar 0) (aC (.d (.int 1)))) (aC (.d (.int 0))))) (aSeq (aAsg (aBin arMod (aCB acInt (aCons (aBin arIx (aVar 0) (aC (.d (.int 1)))) aNil)) (aVar 1)) (gN 3))
    (aSeq (aSetIx (aBin arDiv (aBin arIx (aVar 0) (aC (.d (.int 1)))) (aVar 1)) (aVar 0) (aC (.d (.int 1))))
    (aRet (aVar 3)))) aNx)
    (aSeq (aSetIx (aBin arMod (aCB acInt (aCons (aBin (arAdd none) (aBin arMul (aBin arIx (aVar 0) (aC (.d (.int 2)))) (aC (.d (.int 48271)))) (aC (.d (.int 11)))) aNil)) (aC (.d (.int 2147483647)))) (aVar 0) (aC (.d (.int 2))))
    (aRet (aBin arMod (aCB acInt (aCons (aBin arDiv (aBin arMod (aCB acInt (aCons (aBin arMul (aBin arIx (aVar 0) (aC (.d (.int 2)))) (aBin arIx (aVar 0) (aC (.d (.int 2))))) aNil)) (aC (.d (.int 2147483629)))) (aC (.d (.int 7)))) aNil)) (aVar 1))))))
def a_l_pick (Cl : Cls) (Fr : Addr → Prop) : AS :=
    (aRet (aBin arIx (aVar 1) (aCall c_l_draw xno (aCons (aVar 0) (aCons (aCB acLen (aCons (aVar 1) aNil)) aNil)))))
def a_l_like (Cr : Con) (Cl : Cls) (Fr : Addr → Prop) : AS :=
    (aSeq (aIf (aB (aBin arIs (aVar 1) (aC (.d .none)))) (aRet (aBin arIs (aVar 0) (aC (.d .none)))) aNx)
    (aSeq (aIf (aTru (aCB (ac2 fIsi) (aCons (aVar 1) (aCons (aC (.r (.ty "tuple"))) aNil)))) (aSeq (aIf (aOr (aNot (aTru (aCB (ac2 fIsi) (aCons (aVar 0) (aCons (aC (.r (.ty "tuple"))) aNil))))) (aB (aBin arNe (aCB acLen (aCons (aVar 0) aNil)) (aCB acLen (aCons (aVar 1) aNil))))) (aRet (aC (.d (.bool false)))) aNx)
    (aRet (aCB (ac1 fAll) (aCons (aLc2 none (aRng1 (aCons (aCB acLen (aCons (aVar 1) aNil)) aNil)) (gN 2) aYes (aCall Cr xno (aCons (aBin arIx (aVar 0) (aVar 2)) (aCons (aBin arIx (aVar 1) (aVar 2)) aNil))) [2]) aNil)))) aNx)
    (aSeq (aIf (aTru (aCB (ac2 fIsi) (aCons (aVar 1) (aCons (aC (.r (.ty "str"))) aNil)))) (aRet (aAndV (aCB (ac2 fIsi) (aCons (aVar 0) (aCons (aC (.r (.ty "str"))) aNil))) (aBin arEq (aVar 0) (aVar 1)))) aNx)
    (aRet (aAndV (aCB (ac2 fIsi) (aCons (aVar 0) (aCons (aC (.r (.ty "int"))) aNil))) (aAndV (aNotV (aCB (ac2 fIsi) (aCons (aVar 0) (aCons (aC (.r (.ty "bool"))) aNil)))) (aBin arEq (aVar 0) (aVar 1))))))))
def a_l_gcd (Cl : Cls) (Fr : Addr → Prop) : AS :=
    (aSeq (aWhile (aB (aBin arNe (aVar 1) (aC (.d (.int 0))))) (aPar2 0 1 (aCons (aVar 1) (aCons (aBin arMod (aCB acInt (aCons (aVar 0) aNil)) (aVar 1)) aNil))))
    (aRet (aVar 0)))
def a_l_great (Cl : Cls) (Fr : Addr → Prop) : AS :=
    (aSeq (aAsg (aBin arMul (aCall c_l_draw xno (aCons (aVar 0) (aCons (aBin arPow (aC (.d (.int 10))) (aC (.d (.int 9)))) aNil))) (aBin arDiv (aVar 1) (aBin arPow (aC (.d (.int 10))) (aC (.d (.int 9)))))) (gN 2))
    (aSeq (aAsg (aBin (arAdd none) (aBin (arAdd none) (aVar 2) (aBin arMul (aCall c_l_draw xno (aCons (aVar 0) (aCons (aBin arPow (aC (.d (.int 10))) (aC (.d (.int 9)))) aNil))) (aBin (arAdd none) (aBin arDiv (aVar 1) (aBin arPow (aC (.d (.int 10))) (aC (.d (.int 18))))) (aC (.d (.int 1)))))) (aCall c_l_draw xno (aCons (aVar 0) (aCons (aBin arPow (aC (.d (.int 10))) (aC (.d (.int 9)))) aNil)))) (gN 2))
    (aRet (aBin arMod (aCB acInt (aCons (aVar 2) aNil)) (aVar 1)))))
def a_l_most (Cl : Cls) (Fr : Addr → Prop) : AS :=
    (aRet (aBin arPowX (aBin arPowX (aC (.d (.int 10))) (aC (.d (.int 40)))) (aC (.d (.int 4)))))
def a_l_add (Cl : Cls) (Fr : Addr → Prop) : AS :=
    (aSeq (aAsg (aCall c_l_gcd xno (aCons (aBin arIx (aVar 0) (aC (.d (.int 1)))) (aCons (aBin arIx (aVar 1) (aC (.d (.int 1)))) aNil))) (gN 2))
    (aSeq (aAsg (aBin (arAdd none) (aBin arMul (aBin arIx (aVar 0) (aC (.d (.int 0)))) (aBin arDiv (aBin arIx (aVar 1) (aC (.d (.int 1)))) (aVar 2))) (aBin arMul (aBin arIx (aVar 1) (aC (.d (.int 0)))) (aBin arDiv (aBin arIx (aVar 0) (aC (.d (.int 1)))) (aVar 2)))) (gN 3))
    (aSeq (aAsg (aCall c_l_gcd xno (aCons (aCB acAbs (aCons (aVar 3) aNil)) (aCons (aVar 2) aNil))) (gN 4))
    (aRet (aTup (aCons (aBin arDiv (aVar 3) (aVar 4)) (aCons (aBin arMul (aBin arDiv (aBin arIx (aVar 0) (aC (.d (.int 1)))) (aVar 2)) (aBin arDiv (aBin arIx (aVar 1) (aC (.d (.int 1)))) (aVar 4))) aNil)))))))
def a_l_sum (Cl : Cls) (Fr : Addr → Prop) : AS :=
    (aSeq (aAsg (aTup (aCons (aC (.d (.int 0))) (aCons (aC (.d (.int 1))) aNil))) (gN 1))
    (aSeq (aFor (aIt (aVar 0)) (gN 2) (aAsg (aCall c_l_add xno (aCons (aVar 1) (aCons (aTup (aCons (aC (.d (.int 1))) (aCons (aVar 2) aNil))) aNil))) (gN 1)))
    (aRet (aVar 1))))
def a_l_least (Cl : Cls) (Fr : Addr → Prop) : AS :=
    (aSeq (aAsg (aCall c_l_gcd xno (aCons (aVar 0) (aCons (aVar 1) aNil))) (gN 2))
    (aRet (aTup (aCons (aBin arDiv (aVar 0) (aVar 2)) (aCons (aBin arDiv (aVar 1) (aVar 2)) aNil)))))
def a_l_greedy (Cl : Cls) (Fr : Addr → Prop) : AS :=
    (aSeq (aPar3 2 3 4 (aCons (aVar 0) (aCons (aVar 1) (aCons (aLst (some Fr) aNil) aNil))))
    (aSeq (aWhile (aB (aBin arGt (aVar 2) (aC (.d (.int 0))))) (aSeq (aAsg (aBin arDiv (aBin arSub (aBin (arAdd none) (aVar 3) (aVar 2)) (aC (.d (.int 1)))) (aVar 2)) (gN 5))
    (aSeq (aExp (aMl amAppend (aVar 4) (aCons (aVar 5) aNil)))
    (aPar2 2 3 (aCons (aBin arSub (aBin arMul (aVar 2) (aVar 5)) (aVar 3)) (aCons (aBin arMul (aVar 3) (aVar 5)) aNil))))))
    (aRetD (aCB acTupOf (aCons (aVar 4) aNil)))))
def a_l_fraction (Cl : Cls) (Fr : Addr → Prop) : AS :=
    (aSeq (aAsg (aCall c_l_pick xno (aCons (aVar 0) (aCons (aLst none (aCons (aBin (arAdd none) (aC (.d (.int 1))) (aCall c_l_draw xno (aCons (aVar 0) (aCons (aC (.d (.int 100))) aNil)))) (aCons (aBin (arAdd none) (aC (.d (.int 1))) (aCall c_l_draw xno (aCons (aVar 0) (aCons (aC (.d (.int 100))) aNil)))) (aCons (aBin arSub (aC (.d (.int 100))) (aCall c_l_draw xno (aCons (aVar 0) (aCons (aC (.d (.int 20))) aNil)))) (aCons (aC (.d (.int 100))) (aCons (aC (.d (.int 97))) aNil)))))) aNil))) (gN 1))
    (aRet (aTup (aCons (aCall c_l_pick xno (aCons (aVar 0) (aCons (aLst none (aCons (aBin (arAdd none) (aC (.d (.int 1))) (aCall c_l_draw xno (aCons (aVar 0) (aCons (aVar 1) aNil)))) (aCons (aBin (arAdd none) (aC (.d (.int 1))) (aCall c_l_draw xno (aCons (aVar 0) (aCons (aVar 1) aNil)))) (aCons (aVar 1) (aCons (aC (.d (.int 1))) (aCons (aCB acMax2 (aCons (aC (.d (.int 1))) (aCons (aBin arSub (aVar 1) (aC (.d (.int 1)))) aNil))) aNil)))))) aNil))) (aCons (aVar 1) aNil)))))
def a_l_put_apart (Cl : Cls) (Fr : Addr → Prop) : AS :=
    (aSeq (aAsg (aCB (acLstOf none) (aCons (aVar 1) aNil)) (gN 3))
    (aSeq (aFor (aRng1 (aCons (aC (.d (.int 21))) aNil)) (gN 4) (aSeq (aAsg (aLc2 none (aIt (aVar 3)) (gN 6) (aAnd (aB (aBin arGt (aVar 6) (aC (.d (.int 1))))) (aAnd (aB (aBin arNotIn (aBin (arAdd none) (aVar 6) (aC (.d (.int 1)))) (aVar 3))) (aAnd (aB (aBin arNotIn (aBin arMul (aVar 6) (aBin (arAdd none) (aVar 6) (aC (.d (.int 1))))) (aVar 3))) (aB (aBin arLe (aBin arMul (aVar 6) (aBin (arAdd none) (aVar 6) (aC (.d (.int 1))))) (aCall c_l_most xno aNil)))))) (aVar 6) [6]) (gN 5))
    (aSeq (aIf (aOr (aB (aBin arEq (aVar 5) (aLst none aNil))) (aB (aBin arGe (aCB acLen (aCons (aVar 3) aNil)) (aVar 2)))) aBrk aNx)
    (aSeq (aAsg (aJoin (aIfE (aB (aBin arEq (aCall c_l_draw xno (aCons (aVar 0) (aCons (aC (.d (.int 8))) aNil))) (aC (.d (.int 0))))) (aBin arIx (aVar 5) (aUn arNeg (aC (.d (.int 1))))) (aCall c_l_pick xno (aCons (aVar 0) (aCons (aVar 5) aNil))))) (gN 6))
    (aAsg (aCB (ac1 (fSorted none)) (aCons (aBin (arAdd none) (aLc2 none (aIt (aVar 3)) (gN 7) (aB (aBin arNe (aVar 7) (aVar 6))) (aVar 7) [7]) (aLst none (aCons (aBin (arAdd none) (aVar 6) (aC (.d (.int 1)))) (aCons (aBin arMul (aVar 6) (aBin (arAdd none) (aVar 6) (aC (.d (.int 1))))) aNil)))) aNil)) (gN 3))))))
    (aRet (aCB acTupOf (aCons (aVar 3) aNil)))))
def a_l_by_divisors (Cl : Cls) (Fr : Addr → Prop) : AS :=
    (aSeq (aAsg (aCall c_l_pick xno (aCons (aVar 0) (aCons (aLst none (aCons (aBin (arAdd none) (aC (.d (.int 1))) (aCall c_l_draw xno (aCons (aVar 0) (aCons (aC (.d (.int 100))) aNil)))) (aCons (aC (.d (.int 60))) (aCons (aC (.d (.int 72))) (aCons (aC (.d (.int 84))) (aCons (aC (.d (.int 90))) (aCons (aC (.d (.int 96))) (aCons (aC (.d (.int 100))) (aCons (aC (.d (.int 48))) aNil))))))))) aNil))) (gN 1))
    (aSeq (aPar2 2 3 (aCons (aVar 1) (aCons (aLst (some Fr) aNil) aNil)))
    (aSeq (aFor (aRng3 (aCons (aVar 1) (aCons (aC (.d (.int 0))) (aCons (aUn arNeg (aC (.d (.int 1)))) aNil)))) (gN 4) (aIf (aAnd (aB (aBin arEq (aBin arMod (aCB acInt (aCons (aVar 1) aNil)) (aVar 4)) (aC (.d (.int 0))))) (aAnd (aB (aBin arLe (aVar 4) (aVar 2))) (aOr (aB (aBin arGt (aCall c_l_draw xno (aCons (aVar 0) (aCons (aC (.d (.int 3))) aNil))) (aC (.d (.int 0))))) (aAnd (aB (aBin arEq (aVar 4) (aC (.d (.int 1))))) (aB (aBin arEq (aVar 3) (aLst none aNil))))))) (aSeq (aExp (aMl amAppend (aVar 3) (aCons (aBin arDiv (aVar 1) (aVar 4)) aNil)))
    (aAsg (aBin arSub (aVar 2) (aVar 4)) (gN 2))) aNx))
    (aRetD (aTup (aCons (aBin arSub (aVar 1) (aVar 2)) (aCons (aVar 1) (aCons (aCB acTupOf (aCons (aVar 3) aNil)) aNil))))))))
def a_l_own_units (Cl : Cls) (Fr : Addr → Prop) : AS :=
    (aSeq (aAsg (aCall c_l_pick xno (aCons (aVar 0) (aCons (aLst none (aCons (aC (.d (.int 0))) (aCons (aC (.d (.int 1))) (aCons (aC (.d (.int 2))) (aCons (aC (.d (.int 20))) (aCons (aC (.d (.int 20))) (aCons (aCall c_l_draw xno (aCons (aVar 0) (aCons (aC (.d (.int 21))) aNil))) aNil))))))) aNil))) (gN 1))
    (aSeq (aAsg (aCall c_l_pick xno (aCons (aVar 0) (aCons (aLst none (aCons (aC (.d (.int 60))) (aCons (aC (.d (.int 1000))) (aCons (aBin arPow (aC (.d (.int 10))) (aC (.d (.int 6)))) (aCons (aBin arPow (aC (.d (.int 10))) (aC (.d (.int 40)))) (aCons (aCall c_l_most xno aNil) (aCons (aCall c_l_most xno aNil) aNil))))))) aNil))) (gN 2))
    (aSeq (aPar2 3 4 (aCons (aLst (some Fr) aNil) (aCons (aC (.d (.int 0))) aNil)))
    (aSeq (aFor (aRng1 (aCons (aVar 1) aNil)) (gN 5) (aSeq (aAsg (aBin (arAdd none) (aBin (arAdd none) (aVar 4) (aC (.d (.int 1)))) (aCall c_l_great xno (aCons (aVar 0) (aCons (aBin arDiv (aVar 2) (aVar 1)) aNil)))) (gN 4))
    (aExp (aMl amAppend (aVar 3) (aCons (aVar 4) aNil)))))
    (aSeq (aIf (aAnd (aB (aBin arNe (aVar 3) (aLst none aNil))) (aB (aBin arEq (aCall c_l_draw xno (aCons (aVar 0) (aCons (aC (.d (.int 4))) aNil))) (aC (.d (.int 0)))))) (aSetIx (aCall c_l_most xno aNil) (aVar 3) (aUn arNeg (aC (.d (.int 1))))) aNx)
    (aRetD (aCB acTupOf (aCons (aVar 3) aNil))))))))
def a_l_shape (Cl : Cls) (Fr : Addr → Prop) : AS :=
    (aSeq (aIf (aOr (aNot (aTru (aCB (ac2 fIsi) (aCons (aVar 0) (aCons (aC (.r (.ty "tuple"))) aNil))))) (aB (aBin arGt (aCB acLen (aCons (aVar 0) aNil)) (aC (.d (.int 20)))))) (aRet (aC (.d (.str "form")))) aNx)
    (aSeq (aFor (aIt (aVar 0)) (gN 1) (aIf (aOr (aNot (aTru (aCB (ac2 fIsi) (aCons (aVar 1) (aCons (aC (.r (.ty "int"))) aNil))))) (aOr (aTru (aCB (ac2 fIsi) (aCons (aVar 1) (aCons (aC (.r (.ty "bool"))) aNil)))) (aOr (aB (aBin arLt (aVar 1) (aC (.d (.int 1))))) (aB (aBin arGt (aVar 1) (aCall c_l_most xno aNil)))))) (aRet (aC (.d (.str "form")))) aNx))
    (aSeq (aFor (aRng2 (aCons (aC (.d (.int 1))) (aCons (aCB acLen (aCons (aVar 0) aNil)) aNil))) (gN 2) (aIf (aB (aBin arLe (aBin arIx (aVar 0) (aVar 2)) (aBin arIx (aVar 0) (aBin arSub (aVar 2) (aC (.d (.int 1))))))) (aRet (aTup (aCons (aC (.d (.str "order"))) (aCons (aVar 2) aNil)))) aNx))
    (aRet (aC (.d .none))))))
def a_l_odd (Cl : Cls) (Fr : Addr → Prop) : AS :=
    (aSeq (aAsg (aCall c_l_most xno aNil) (gN 2))
    (aRet (aCall c_l_pick xno (aCons (aVar 0) (aCons (aLst none (aCons (aC (.d (.int 0))) (aCons (aUn arNeg (aVar 1)) (aCons (aC (.d (.bool true))) (aCons (aC (.d (.bool false))) (aCons (aC (.d .none)) (aCons (aC (.d (.str "2"))) (aCons (aCB (ac1 fStrI) (aCons (aVar 1) aNil)) (aCons (aTup (aCons (aVar 1) aNil)) (aCons (aLst none (aCons (aVar 1) aNil)) (aCons (aDispD (((.inr "a"), (aVar 1)) :: [])) (aCons (aBin (arAdd none) (aVar 2) (aC (.d (.int 1)))) (aCons (aBin arMul (aBin arMul (aVar 2) (aVar 2)) (aBin arPow (aC (.d (.int 10))) (aC (.d (.int 64))))) (aCons (aUn arNeg (aC (.d (.int 1)))) aNil)))))))))))))) aNil)))))
def a_l_spoilt (Cl : Cls) (Fr : Addr → Prop) : AS :=
    (aSeq (aPar2 3 4 (aCons (aCB acLen (aCons (aVar 1) aNil)) (aCons (aCall c_l_draw xno (aCons (aVar 0) (aCons (aCB acLen (aCons (aVar 1) aNil)) aNil))) aNil)))
    (aSeq (aAsg (aJoin (aIfE (aB (aBin arEq (aCall c_l_draw xno (aCons (aVar 0) (aCons (aC (.d (.int 3))) aNil))) (aC (.d (.int 0))))) (aBin arSub (aVar 3) (aC (.d (.int 1)))) (aVar 4))) (gN 4))
    (aSeq (aAsg (aCall c_l_add xno (aCons (aVar 2) (aCons (aTup (aCons (aUn arNeg (aC (.d (.int 1)))) (aCons (aBin arIx (aVar 1) (aVar 4)) aNil))) aNil))) (gN 5))
    (aSeq (aAsg (aCall c_l_pick xno (aCons (aVar 0) (aCons (aLst none (aCons (aBin (arAdd none) (aBin arIx (aVar 1) (aVar 4)) (aC (.d (.int 1)))) (aCons (aBin (arAdd none) (aBin arIx (aVar 1) (aVar 4)) (aC (.d (.int 1)))) (aCons (aBin arSub (aBin arIx (aVar 1) (aVar 4)) (aC (.d (.int 1)))) (aCons (aBin (arAdd none) (aBin (arAdd none) (aBin arIx (aVar 1) (aVar 4)) (aC (.d (.int 1)))) (aCall c_l_draw xno (aCons (aVar 0) (aCons (aC (.d (.int 1000))) aNil)))) (aCons (aCB acMax2 (aCons (aC (.d (.int 1))) (aCons (aBin arDiv (aBin arIx (aVar 1) (aVar 4)) (aC (.d (.int 2)))) aNil))) aNil)))))) aNil))) (gN 6))
    (aSeq (aAsg (aBin (arAdd none) (aBin (arAdd none) (aSl none (aVar 1) aNoP (aPart (aVar 4))) (aTup (aCons (aVar 6) aNil))) (aSl none (aVar 1) (aPart (aBin (arAdd none) (aVar 4) (aC (.d (.int 1))))) aNoP)) (gN 7))
    (aSeq (aAsg (aBin (arAdd none) (aBin (arAdd none) (aSl none (aVar 1) aNoP (aPart (aVar 4))) (aTup (aCons (aCall c_l_odd xno (aCons (aVar 0) (aCons (aBin arIx (aVar 1) (aVar 4)) aNil))) aNil))) (aSl none (aVar 1) (aPart (aBin (arAdd none) (aVar 4) (aC (.d (.int 1))))) aNoP)) (gN 8))
    (aSeq (aAsg (aLst (some Fr) (aCons (aTup (aCons (aVar 1) (aCons (aVar 2) aNil))) (aCons (aTup (aCons (aTup aNil) (aCons (aTup (aCons (aC (.d (.int 0))) (aCons (aC (.d (.int 1))) aNil))) aNil))) (aCons (aTup (aCons (aBin (arAdd none) (aSl none (aVar 1) aNoP (aPart (aVar 4))) (aSl none (aVar 1) (aPart (aBin (arAdd none) (aVar 4) (aC (.d (.int 1))))) aNoP)) (aCons (aVar 5) aNil))) (aCons (aTup (aCons (aBin (arAdd none) (aBin (arAdd none) (aSl none (aVar 1) aNoP (aPart (aVar 4))) (aTup (aCons (aBin arIx (aVar 1) (aVar 4)) aNil))) (aSl none (aVar 1) (aPart (aVar 4)) aNoP)) (aCons (aVar 2) aNil))) (aCons (aTup (aCons (aVar 8) (aCons (aVar 2) aNil))) (aCons (aTup (aCons (aCB (acLstOf none) (aCons (aVar 1) aNil)) (aCons (aVar 2) aNil))) aNil))))))) (gN 9))
    (aSeq (aExp (aMl amAppend (aVar 9) (aCons (aTup (aCons (aVar 7) (aCons (aJoin (aIfE (aB (aBin arLt (aVar 6) (aC (.d (.int 1))))) (aVar 2) (aCall c_l_add xno (aCons (aVar 5) (aCons (aTup (aCons (aC (.d (.int 1))) (aCons (aVar 6) aNil))) aNil))))) aNil))) aNil)))
    (aSeq (aExp (aMl amAppend (aVar 9) (aCons (aTup (aCons (aBin (arAdd none) (aVar 1) (aTup (aCons (aCall c_l_most xno aNil) aNil))) (aCons (aCall c_l_add xno (aCons (aVar 2) (aCons (aTup (aCons (aC (.d (.int 1))) (aCons (aCall c_l_most xno aNil) aNil))) aNil))) aNil))) aNil)))
    (aSeq (aExp (aMl amAppend (aVar 9) (aCons (aTup (aCons (aBin (arAdd none) (aVar 1) (aTup (aCons (aBin (arAdd none) (aCall c_l_most xno aNil) (aC (.d (.int 1)))) aNil))) (aCons (aVar 2) aNil))) aNil)))
    (aSeq (aExp (aMl amAppend (aVar 9) (aCons (aTup (aCons (aBin (arAdd none) (aBin (arAdd none) (aSl none (aVar 1) aNoP (aPart (aVar 4))) (aTup (aCons (aC (.d (.bool true))) aNil))) (aSl none (aVar 1) (aPart (aBin (arAdd none) (aVar 4) (aC (.d (.int 1))))) aNoP)) (aCons (aVar 2) aNil))) aNil)))
    (aSeqE (aIf (aB (aBin arGt (aVar 3) (aC (.d (.int 1))))) (aSeq (aAsg (aJoin (aIfE (aB (aBin arEq (aCall c_l_draw xno (aCons (aVar 0) (aCons (aC (.d (.int 3))) aNil))) (aC (.d (.int 0))))) (aBin arSub (aVar 3) (aC (.d (.int 2)))) (aCall c_l_draw xno (aCons (aVar 0) (aCons (aBin arSub (aVar 3) (aC (.d (.int 1)))) aNil))))) (gN 10))
    (aSeq (aAsg (aBin (arAdd none) (aBin (arAdd none) (aSl none (aVar 1) aNoP (aPart (aVar 10))) (aTup (aCons (aBin arIx (aVar 1) (aBin (arAdd none) (aVar 10) (aC (.d (.int 1))))) (aCons (aBin arIx (aVar 1) (aVar 10)) aNil)))) (aSl none (aVar 1) (aPart (aBin (arAdd none) (aVar 10) (aC (.d (.int 2))))) aNoP)) (gN 11))
    (aSeq (aExp (aMl amAppend (aVar 9) (aCons (aTup (aCons (aVar 11) (aCons (aVar 2) aNil))) aNil)))
    (aSeq (aExp (aMl amAppend (aVar 9) (aCons (aTup (aCons (aBin (arAdd none) (aSl none (aVar 11) aNoP (aPart (aUn arNeg (aC (.d (.int 1)))))) (aTup (aCons (aC (.d (.int 1))) aNil))) (aCons (aVar 2) aNil))) aNil)))
    (aSeq (aExp (aMl amAppend (aVar 9) (aCons (aTup (aCons (aBin (arAdd none) (aBin (arAdd none) (aBin (arAdd none) (aSl none (aVar 1) aNoP (aPart (aVar 10))) (aTup (aCons (aBin arIx (aVar 1) (aBin (arAdd none) (aVar 10) (aC (.d (.int 1))))) (aCons (aBin arIx (aVar 1) (aVar 10)) aNil)))) (aSl none (aVar 8) (aPart (aBin (arAdd none) (aVar 10) (aC (.d (.int 2))))) aNoP)) (aTup (aCons (aC (.d (.int 0))) aNil))) (aCons (aVar 2) aNil))) aNil)))
    (aSeq (aExp (aMl amAppend (aVar 9) (aCons (aTup (aCons (aCB acTupOf (aCons (aLstRev none (aCB (acLstOf none) (aCons (aVar 1) aNil))) aNil)) (aCons (aVar 2) aNil))) aNil)))
    (aExp (aMl amAppend (aVar 9) (aCons (aTup (aCons (aBin (arAdd none) (aSl none (aVar 1) aNoP (aPart (aBin arSub (aVar 3) (aC (.d (.int 1)))))) (aTup (aCons (aBin arIx (aVar 1) (aBin arSub (aVar 3) (aC (.d (.int 2))))) aNil))) (aCons (aVar 2) aNil))) aNil))))))))) aNx)
    (aSeq (aAsg (aBin (arAdd none) (aBin arSub (aC (.d (.int 21))) (aVar 3)) (aCall c_l_pick xno (aCons (aVar 0) (aCons (aLst none (aCons (aC (.d (.int 0))) (aCons (aC (.d (.int 0))) (aCons (aC (.d (.int 1))) (aCons (aC (.d (.int 300))) aNil))))) aNil)))) (gN 12))
    (aSeq (aExp (aMl amAppend (aVar 9) (aCons (aTup (aCons (aBin (arAdd none) (aVar 1) (aCB acTupOf (aCons (aLc2 none (aRng1 (aCons (aVar 12) aNil)) (gN 10) aYes (aBin (arAdd none) (aBin (arAdd none) (aBin arIx (aVar 1) (aUn arNeg (aC (.d (.int 1))))) (aC (.d (.int 1)))) (aVar 10)) [10]) aNil))) (aCons (aVar 2) aNil))) aNil)))
    (aSeq (aExp (aMl amAppend (aVar 9) (aCons (aTup (aCons (aBin (arAdd none) (aVar 1) (aBin (arMulB none) (aTup (aCons (aC (.d (.int 1))) aNil)) (aVar 12))) (aCons (aVar 2) aNil))) aNil)))
    (aSeq (aExp (aMl amAppend (aVar 9) (aCons (aTup (aCons (aCall c_l_pick xno (aCons (aVar 0) (aCons (aLst none (aCons (aC (.d .none)) (aCons (aC (.d (.bool true))) (aCons (aC (.d (.int 5))) (aCons (aC (.d (.str ""))) (aCons (aC (.d (.str "form"))) (aCons aDNewD (aCons (aLst none aNil) (aCons (aTup (aCons (aC (.d (.str "sum"))) (aCons (aVar 1) aNil))) (aCons (aTup (aCons (aVar 1) aNil)) (aCons (aTup (aCons (aTup aNil) aNil)) (aCons (aDispD (((.inr "units"), (aVar 1)) :: [])) (aCons (aBin arPow (aC (.d (.int 10))) (aC (.d (.int 64)))) aNil))))))))))))) aNil))) (aCons (aVar 2) aNil))) aNil)))
    (aRetF Fr (aVar 9))))))))))))))))))
def a_l_judges (Cl : Cls) (Fr : Addr → Prop) : AS :=
    (aSeq (aFor (aEnumerate (aCons (aVar 3) aNil)) (gT 2 (gs1 (gN 4) (gs1 (gT 2 (gs1 (gN 5) (gs1 (gN 6) gs0))) gs0))) (aSeq (aPar2 7 8 (aCons (aCall c_l_shape xno (aCons (aVar 5) aNil)) (aCons (aCB (ac1 fReprD) (aCons (aVar 5) aNil)) aNil)))
    (aSeq (aAsg (aVar 7) (gN 9))
    (aSeq (aIf (aAnd (aB (aBin arIs (aVar 7) (aC (.d .none)))) (aB (aBin arNe (aBin arMul (aBin arIx (aVar 6) (aC (.d (.int 0)))) (aVar 2)) (aBin arMul (aVar 1) (aBin arIx (aVar 6) (aC (.d (.int 1)))))))) (aAsg (aTup (aCons (aC (.d (.str "sum"))) (aCons (aVar 6) aNil))) (gN 9)) aNx)
    (aSeq (aAsg (aJoin (aIfE (aB (aBin arEq (aBin arMod (aCB acInt (aCons (aVar 4) aNil)) (aC (.d (.int 3)))) (aC (.d (.int 0))))) (aCallK c_units_error xno 0 3 [0, 1, 2] aNil (aCons (aVar 1) (aCons (aVar 2) (aCons (aVar 5) aNil)))) (aCall c_units_error xno (aCons (aVar 1) (aCons (aVar 2) (aCons (aVar 5) aNil)))))) (gN 10))
    (aSeq (aIf (aOr (aNot (aTru (aCall (c_l_like 3) xno (aCons (aVar 10) (aCons (aVar 9) aNil))))) (aB (aBin arNe (aCB (ac1 fReprD) (aCons (aVar 5) aNil)) (aVar 8)))) (aRet (aC (.d (.bool false)))) aNx)
    (aIf (aB (aBin arIs (aVar 7) (aC (.d .none)))) (aSeq (aAsg (aJoin (aIfE (aB (aBin arEq (aBin arMod (aCB acInt (aCons (aVar 4) aNil)) (aC (.d (.int 2)))) (aC (.d (.int 0))))) (aCallK c_units_sum xno 0 1 [0] aNil (aCons (aVar 5) aNil)) (aCall c_units_sum xno (aCons (aVar 5) aNil)))) (gN 10))
    (aIf (aOr (aNot (aTru (aCall (c_l_like 3) xno (aCons (aVar 10) (aCons (aVar 6) aNil))))) (aB (aBin arNe (aCB (ac1 fReprD) (aCons (aVar 5) aNil)) (aVar 8)))) (aRet (aC (.d (.bool false)))) aNx)) aNx)))))))
    (aRet (aC (.d (.bool true)))))
def a_l_is_lone (Cl : Cls) (e1 : Addr) : AS :=
    (aSeq (aIf (aTru (aIsET e1 false (aVar 0))) (aRet (aC (.d (.bool false)))) aNx)
    (aSeq (aIf (aTru (aIsET e1 false (aVar 0))) (aRet (aC (.d (.bool false)))) aNx)
    (aRet (aAndV (aCB (acIsE e1 (.ref Cl.Unfit) true) (aCons (aVar 0) (aCons (aC (.r (.ref Cl.Unfit))) aNil))) (aAndV (aCB (acIsE e1 (.ref Cl.BaseError) true) (aCons (aVar 0) (aCons (aC (.r (.ref Cl.BaseError))) aNil))) (aCB (acIsE e1 (.ty "ValueError") true) (aCons (aVar 0) (aCons (aC (.r (.ty "ValueError"))) aNil))))))))
def a_l_split (Cl : Cls) (Fr : Addr → Prop) : AS :=
    (aTry 2 (.ref Cl.Unfit) (fun Ξ1 => (aRet (aIfE (aTru (aVar 1)) (aCallK (c_split_unit Cl) Ξ1 0 1 [0] aNil (aCons (aVar 0) aNil)) (aCall (c_split_unit Cl) Ξ1 (aCons (aVar 0) aNil))))) (fun e1 => (aRet (aLst none (aCons (aCallE e1 true (aVar 2)) aNil)))))
def a_l_are_splits_right (Cl : Cls) (Fr : Addr → Prop) : AS :=
    (aSeq (aFor (aIt (aLst none (aCons (aC (.d (.int 1))) (aCons (aC (.d (.int 2))) (aCons (aC (.d (.int 1000))) (aCons (aBin (arAdd none) (aC (.d (.int 1))) (aCall c_l_draw xno (aCons (aVar 0) (aCons (aC (.d (.int 1000))) aNil)))) (aCons (aBin (arAdd none) (aC (.d (.int 1))) (aCall c_l_draw xno (aCons (aVar 0) (aCons (aC (.d (.int 1000))) aNil)))) (aCons (aC (.d (.int 1))) aNil)))))))) (gN 1) (aSeq (aAsg (aCall c_l_split xno (aCons (aVar 1) (aCons (aBin arEq (aCall c_l_draw xno (aCons (aVar 0) (aCons (aC (.d (.int 2))) aNil))) (aC (.d (.int 0)))) aNil))) (gN 2))
    (aSeq (aIf (aOr (aAnd (aB (aBin arEq (aVar 1) (aC (.d (.int 1))))) (aB (aBin arNe (aVar 2) (aLst none (aCons (aC (.d (.bool true))) aNil))))) (aAnd (aB (aBin arGt (aVar 1) (aC (.d (.int 1))))) (aNot (aTru (aCall (c_l_like 3) xno (aCons (aVar 2) (aCons (aTup (aCons (aBin (arAdd none) (aVar 1) (aC (.d (.int 1)))) (aCons (aBin arMul (aVar 1) (aBin (arAdd none) (aVar 1) (aC (.d (.int 1))))) aNil))) aNil))))))) (aRet (aC (.d (.bool false)))) aNx)
    (aSeq (aIf (aAnd (aB (aBin arGt (aVar 1) (aC (.d (.int 1))))) (aNot (aTru (aCall (c_l_like 3) xno (aCons (aCall c_units_sum xno (aCons (aTup (aCons (aBin (arAdd none) (aVar 1) (aC (.d (.int 1)))) (aCons (aBin arMul (aVar 1) (aBin (arAdd none) (aVar 1) (aC (.d (.int 1))))) aNil))) aNil)) (aCons (aTup (aCons (aC (.d (.int 1))) (aCons (aVar 1) aNil))) aNil)))))) (aRet (aC (.d (.bool false)))) aNx)
    (aIf (aAnd (aB (aChain arLt arLt (aC (.d (.int 1))) (aVar 1) (aC (.d (.int 101))))) (aNot (aTru (aCall (c_l_like 3) xno (aCons (aCall c_units_error xno (aCons (aC (.d (.int 1))) (aCons (aVar 1) (aCons (aTup (aCons (aBin (arAdd none) (aVar 1) (aC (.d (.int 1)))) (aCons (aBin arMul (aVar 1) (aBin (arAdd none) (aVar 1) (aC (.d (.int 1))))) aNil))) aNil)))) (aCons (aC (.d .none)) aNil)))))) (aRet (aC (.d (.bool false)))) aNx)))))
    (aRet (aC (.d (.bool true)))))
def a_l_is_greedy_right (Cl : Cls) (Fr : Addr → Prop) : AS :=
    (aSeq (aPar2 3 4 (aCons (aCall c_l_greedy xno (aCons (aVar 1) (aCons (aVar 2) aNil))) (aCons (aCall c_l_least xno (aCons (aVar 1) (aCons (aVar 2) aNil))) aNil)))
    (aSeq (aIf (aOr (aNot (aTru (aCall (c_l_like 3) xno (aCons (aCall c_greedy_units xno (aCons (aVar 1) (aCons (aVar 2) aNil))) (aCons (aVar 3) aNil))))) (aNot (aTru (aCall (c_l_like 3) xno (aCons (aCallK c_greedy_units xno 0 2 [1, 0] aNil (aCons (aVar 2) (aCons (aVar 1) aNil))) (aCons (aVar 3) aNil)))))) (aRet (aC (.d (.bool false)))) aNx)
    (aSeq (aAsg (aBin (arAdd none) (aC (.d (.int 1))) (aCall c_l_draw xno (aCons (aVar 0) (aCons (aBin arDiv (aC (.d (.int 100))) (aBin arIx (aVar 4) (aC (.d (.int 1))))) aNil)))) (gN 5))
    (aSeq (aIf (aOr (aNot (aTru (aCall (c_l_like 3) xno (aCons (aCall c_greedy_units xno (aCons (aBin arMul (aVar 5) (aBin arIx (aVar 4) (aC (.d (.int 0))))) (aCons (aBin arMul (aVar 5) (aBin arIx (aVar 4) (aC (.d (.int 1))))) aNil))) (aCons (aVar 3) aNil))))) (aNot (aTru (aCall (c_l_like 3) xno (aCons (aCall c_units_error xno (aCons (aBin arMul (aVar 5) (aBin arIx (aVar 4) (aC (.d (.int 0))))) (aCons (aBin arMul (aVar 5) (aBin arIx (aVar 4) (aC (.d (.int 1))))) (aCons (aVar 3) aNil)))) (aCons (aC (.d .none)) aNil)))))) (aRet (aC (.d (.bool false)))) aNx)
    (aSeq (aIf (aOr (aNot (aTru (aCall (c_l_like 3) xno (aCons (aCall c_units_sum xno (aCons (aVar 3) aNil)) (aCons (aVar 4) aNil))))) (aNot (aTru (aCall c_l_judges xno (aCons (aVar 0) (aCons (aVar 1) (aCons (aVar 2) (aCons (aCall c_l_spoilt xno (aCons (aVar 0) (aCons (aVar 3) (aCons (aVar 4) aNil)))) aNil)))))))) (aRet (aC (.d (.bool false)))) aNx)
    (aSeq (aAsg (aCall c_l_put_apart xno (aCons (aVar 0) (aCons (aVar 3) (aCons (aCall c_l_pick xno (aCons (aVar 0) (aCons (aLst none (aCons (aBin (arAdd none) (aCB acLen (aCons (aVar 3) aNil)) (aC (.d (.int 1)))) (aCons (aC (.d (.int 20))) (aCons (aC (.d (.int 20))) (aCons (aC (.d (.int 21))) (aCons (aBin (arAdd none) (aC (.d (.int 3))) (aCall c_l_draw xno (aCons (aVar 0) (aCons (aC (.d (.int 18))) aNil)))) aNil)))))) aNil))) aNil)))) (gN 6))
    (aSeq (aAsg (aJoin (aIfE (aB (aBin arGt (aCB acLen (aCons (aVar 6) aNil)) (aC (.d (.int 20))))) (aLst none (aCons (aTup (aCons (aVar 6) (aCons (aVar 4) aNil))) aNil)) (aCall c_l_spoilt xno (aCons (aVar 0) (aCons (aVar 6) (aCons (aVar 4) aNil)))))) (gN 7))
    (aSeq (aAsg (aCall c_l_fraction xno (aCons (aVar 0) aNil)) (gN 8))
    (aRet (aAndV (aCall c_l_judges xno (aCons (aVar 0) (aCons (aVar 1) (aCons (aVar 2) (aCons (aVar 7) aNil))))) (aCall c_l_judges xno (aCons (aVar 0) (aCons (aBin arIx (aVar 8) (aC (.d (.int 0)))) (aCons (aBin arIx (aVar 8) (aC (.d (.int 1)))) (aCons (aLst none (aCons (aTup (aCons (aVar 3) (aCons (aVar 4) aNil))) (aCons (aTup (aCons (aVar 6) (aCons (aVar 4) aNil))) aNil))) aNil)))))))))))))))
def a_law (Cl : Cls) (Fr : Addr → Prop) : AS :=
    (aSeq (aAsg (aCall c_l_own_bag xno (aCons (aVar 0) aNil)) (gN 1))
    (aSeq (aIf (aNot (aTru (aCall (c_l_like 3) xno (aCons (aTup (aCons (aC (.d (.int 100))) (aCons (aC (.d (.int 20))) (aCons (aC (.d (.int 10000000000000000000000000000000000000000000000000000000000000000000000000000000000000000000000000000000000000000000000000000000000000000000000000000000000000000))) (aCons (aC (.d (.int 1000))) aNil))))) (aCons (aTup (aCons (aC (.d (.int 100))) (aCons (aC (.d (.int 20))) (aCons (aCall c_l_most xno aNil) (aCons (aC (.d (.int 1000))) aNil))))) aNil))))) (aRet (aC (.d (.bool false)))) aNx)
    (aSeq (aAsg (aCall c_l_fraction xno (aCons (aVar 1) aNil)) (gN 2))
    (aSeq (aIf (aOr (aNot (aTru (aCall c_l_is_greedy_right xno (aCons (aVar 1) (aCons (aBin arIx (aVar 2) (aC (.d (.int 0)))) (aCons (aBin arIx (aVar 2) (aC (.d (.int 1)))) aNil)))))) (aNot (aTru (aCall c_l_are_splits_right xno (aCons (aVar 1) aNil))))) (aRet (aC (.d (.bool false)))) aNx)
    (aSeq (aAsg (aCall c_l_by_divisors xno (aCons (aVar 1) aNil)) (gT 3 (gs1 (gN 3) (gs1 (gN 4) (gs1 (gN 5) gs0)))))
    (aSeq (aIf (aNot (aTru (aCall c_l_judges xno (aCons (aVar 1) (aCons (aVar 3) (aCons (aVar 4) (aCons (aCall c_l_spoilt xno (aCons (aVar 1) (aCons (aVar 5) (aCons (aCall c_l_least xno (aCons (aVar 3) (aCons (aVar 4) aNil))) aNil)))) aNil))))))) (aRet (aC (.d (.bool false)))) aNx)
    (aSeq (aAsg (aCall c_l_own_units xno (aCons (aVar 1) aNil)) (gN 5))
    (aSeq (aAsg (aCall c_l_sum xno (aCons (aVar 5) aNil)) (gN 6))
    (aSeq (aIf (aNot (aTru (aCall c_l_judges xno (aCons (aVar 1) (aCons (aVar 3) (aCons (aVar 4) (aCons (aLst none (aCons (aTup (aCons (aVar 5) (aCons (aVar 6) aNil))) (aCons (aTup (aCons (aTup (aCons (aC (.d (.bool true))) aNil)) (aCons (aC (.d .none)) aNil))) (aCons (aTup (aCons (aTup (aCons (aC (.d (.int 1))) aNil)) (aCons (aTup (aCons (aC (.d (.int 1))) (aCons (aC (.d (.int 1))) aNil))) aNil))) aNil)))) aNil))))))) (aRet (aC (.d (.bool false)))) aNx)
    (aSeq (aIf (aNot (aTru (aCall c_l_judges xno (aCons (aVar 1) (aCons (aVar 4) (aCons (aVar 4) (aCons (aLst none (aCons (aTup (aCons (aTup (aCons (aC (.d (.int 1))) aNil)) (aCons (aTup (aCons (aC (.d (.int 1))) (aCons (aC (.d (.int 1))) aNil))) aNil))) (aCons (aTup (aCons (aTup (aCons (aC (.d (.bool true))) aNil)) (aCons (aC (.d .none)) aNil))) (aCons (aTup (aCons (aTup (aCons (aC (.d (.int 1))) aNil)) (aCons (aTup (aCons (aC (.d (.int 1))) (aCons (aC (.d (.int 1))) aNil))) aNil))) (aCons (aTup (aCons (aTup (aCons (aC (.d (.int 2))) (aCons (aC (.d (.int 3))) (aCons (aC (.d (.int 6))) aNil)))) (aCons (aTup (aCons (aC (.d (.int 1))) (aCons (aC (.d (.int 1))) aNil))) aNil))) aNil))))) aNil))))))) (aRet (aC (.d (.bool false)))) aNx)
    (aSeq (aAsg (aCall c_l_fraction xno (aCons (aVar 1) aNil)) (gN 7))
    (aSeq (aIf (aNot (aTru (aCall (c_l_like 3) xno (aCons (aCall c_greedy_units xno (aCons (aBin arIx (aVar 7) (aC (.d (.int 0)))) (aCons (aBin arIx (aVar 7) (aC (.d (.int 1)))) aNil))) (aCons (aCall c_l_greedy xno (aCons (aBin arIx (aVar 7) (aC (.d (.int 0)))) (aCons (aBin arIx (aVar 7) (aC (.d (.int 1)))) aNil))) aNil))))) (aRet (aC (.d (.bool false)))) aNx)
    (aRet (aCall (c_l_like 3) xno (aCons (aCall c_greedy_units xno (aCons (aBin arIx (aVar 2) (aC (.d (.int 0)))) (aCons (aBin arIx (aVar 2) (aC (.d (.int 1)))) aNil))) (aCons (aCall c_l_greedy xno (aCons (aBin arIx (aVar 2) (aC (.d (.int 0)))) (aCons (aBin arIx (aVar 2) (aC (.d (.int 1)))) aNil))) aNil))))))))))))))))
theorem w_l_pick (Cl : Cls) (Fr : Addr → Prop) (svs : List SV) (Ω : Om) (Φ : PhiE) (Ξ : XA) (h : c_l_pick svs Ω Φ Ξ) :
    a_l_pick Cl Fr { nx := fun _ Ω => Φ (.d .none) Ω, rt := Φ } (startR N_l_pick svs) Ω := by
  obtain ⟨hB, ne, ln, k⟩ := h
  rename_i x ds L R
  conv => whnf
  refine .mk hB ?_ ?_ fun r Ω' r0 r1 hB' => ?_
  · have := List.length_pos_iff.mpr ne
    omega
  · have := log2_lt (n := ((ds.length : Nat) : Int).natAbs) (k := 60) (by simpa using ln) (by decide)
    omega
  · have lt : r.toNat < ds.length := by omega
    conv => whnf
    exact ⟨_, atI_i r0 (List.getElem?_eq_getElem lt), k _ (List.getElem_mem lt) _ hB'⟩
theorem w_l_draw (Cl : Cls) (Fr : Addr → Prop) (svs : List SV) (Ω : Om) (Φ : PhiE) (Ξ : XA) (h : c_l_draw svs Ω Φ Ξ) :
    a_l_draw Cl Fr { nx := fun _ Ω => Φ (.d .none) Ω, rt := Φ } (startR N_l_draw svs) Ω := by
  obtain ⟨hB, b0, b1, k⟩ := h
  obtain ⟨hx, ok⟩ := hB
  rename_i x below L R b c n m is
  subst hx
  conv => whnf
  refine ⟨fun d ρ Ω' => ∃ (n : Int) (is : List Int) (ρ2 : Option SV), ρ = [some (.r (.ref b)), some (I below), ρ2, none] ∧ Ω' = L ++ (b, .lx [.r (.ref c), I n, I m]) :: (c, .lst (isD is)) :: R ∧ d = is.length ∧ BagOk n m is, ⟨_, _, _, _, rfl, rfl, rfl, ok⟩, ?_⟩
  clear ok n is
  rintro d ρ _ ⟨n, is, ρ2, rfl, rfl, rfl, ok⟩
  have A1 := At.app (At.here (a := b) (c := .lx [.r (.ref c), I n, I m]) (Ω := (c, .lst (isD is)) :: R)) L
  have A2 := At.app (At.there (p := (b, .lx [.r (.ref c), I n, I m])) (At.here (a := c) (c := .lst (isD is)) (Ω := R))) L
  have fin : ∀ ρ2, (aSeq (aIf (aB (aBin arGt (aBin arIx (aVar 0) (aC (.d (.int 1)))) (aC (.d (.int 0))))) (aSeq (aAsg (aBin arMod (aCB acInt (aCons (aBin arIx (aVar 0) (aC (.d (.int 1)))) aNil)) (aVar 1)) (gN 3)) (aSeq (aSetIx (aBin arDiv (aBin arIx (aVar 0) (aC (.d (.int 1)))) (aVar 1)) (aVar 0) (aC (.d (.int 1)))) (aRet (aVar 3)))) aNx) (aSeq (aSetIx (aBin arMod (aCB acInt (aCons (aBin (arAdd none) (aBin arMul (aBin arIx (aVar 0) (aC (.d (.int 2)))) (aC (.d (.int 48271)))) (aC (.d (.int 11)))) aNil)) (aC (.d (.int 2147483647)))) (aVar 0) (aC (.d (.int 2)))) (aRet (aBin arMod (aCB acInt (aCons (aBin arDiv (aBin arMod (aCB acInt (aCons (aBin arMul (aBin arIx (aVar 0) (aC (.d (.int 2)))) (aBin arIx (aVar 0) (aC (.d (.int 2))))) aNil)) (aC (.d (.int 2147483629)))) (aC (.d (.int 7)))) aNil)) (aVar 1))))) { nx := fun _ Ω => Φ (.d .none) Ω, rt := Φ } [some (.r (.ref b)), some (I below), ρ2, none] (L ++ (b, .lx [.r (.ref c), I n, I m]) :: (c, .lst (isD is)) :: R) := by
    intro ρ2
    conv => whnf
    refine ⟨_, _, A1, ?_⟩
    conv => whnf
    refine ⟨_, rfl, ?_⟩
    conv => whnf
    refine br_d (fun gt => ?_) fun le => ?_
    · conv => whnf
      refine ⟨_, _, A1, ?_⟩
      conv => whnf
      refine ⟨_, rfl, ?_⟩
      conv => whnf
      refine ⟨b0, ?_⟩
      conv => whnf
      refine ⟨_, _, A1, ?_⟩
      conv => whnf
      refine ⟨_, rfl, ?_⟩
      conv => whnf
      refine ⟨⟨b0, b1⟩, ?_⟩
      conv => whnf
      refine ⟨_, _, A1, ?_⟩
      conv => whnf
      refine ⟨1, rfl, ?_⟩
      conv => whnf
      exact k _ _ (Int.emod_nonneg _ (by omega)) (Int.emod_lt_of_pos _ b0) (.mk rfl ⟨Int.ediv_nonneg ok.n0 (by omega), ok.m0, ok.m1, ok.i0⟩)
    · have m0 := ok.m0
      have m1 := ok.m1
      conv => whnf
      refine ⟨_, _, A1, ?_⟩
      conv => whnf
      refine ⟨_, rfl, ?_⟩
      conv => whnf
      refine ⟨cmul (by omega) (by omega) (by omega) (by omega), ?_⟩
      conv => whnf
      refine ⟨(by decide : (0 : Int) < 2147483647), ?_⟩
      conv => whnf
      refine ⟨_, _, A1, ?_⟩
      conv => whnf
      refine ⟨2, rfl, ?_⟩
      have z0 : 0 ≤ (m * 48271 + 11) % 2147483647 := by omega
      have z1 : (m * 48271 + 11) % 2147483647 < 2147483647 := by omega
      have A3 := At.app (At.here (a := b) (c := .lx [.r (.ref c), I n, I ((m * 48271 + 11) % 2147483647)]) (Ω := (c, .lst (isD is)) :: R)) L
      conv => whnf
      refine ⟨_, _, A3, ?_⟩
      conv => whnf
      refine ⟨_, rfl, ?_⟩
      conv => whnf
      refine ⟨_, _, A3, ?_⟩
      conv => whnf
      refine ⟨_, rfl, ?_⟩
      conv => whnf
      refine ⟨cmul (by omega) (by omega) (by omega) (by omega), ?_⟩
      conv => whnf
      refine ⟨(by decide : (0 : Int) < 2147483629), ?_⟩
      conv => whnf
      refine ⟨cdiv (by decide) (by decide), ?_⟩
      conv => whnf
      refine ⟨b0, ?_⟩
      conv => whnf
      exact k _ _ (Int.emod_nonneg _ (by omega)) (Int.emod_lt_of_pos _ b0) (.mk rfl ⟨ok.n0, z0, z1, ok.i0⟩)
  conv => whnf
  refine ⟨_, _, A1, ?_⟩
  conv => whnf
  refine ⟨_, rfl, ?_⟩
  conv => whnf
  refine br_d (fun e0 => ?_) fun ne => ?_
  · conv => whnf
    refine ⟨_, _, A1, ?_⟩
    conv => whnf
    refine ⟨_, rfl, ?_⟩
    conv => whnf
    refine ⟨by decide, ?_⟩
    conv => whnf
    refine ⟨_, _, A2, ?_⟩
    conv => whnf
    refine ⟨(shaped_isD is).2, shaped_nil, ?_⟩
    conv => whnf
    rw [eqv_nil]
    refine br_n (br_d (fun e => ?_) fun ne => ?_)
    · exact fin ρ2
    · conv => whnf
      refine ⟨_, _, A1, ?_⟩
      conv => whnf
      refine ⟨_, rfl, ?_⟩
      conv => whnf
      refine ⟨⟨_, _, A2, trivial⟩, ?_⟩
      obtain ⟨js, i, rfl⟩ : ∃ js i, is = js ++ [i] := ⟨is.dropLast, is.getLast ne, (List.dropLast_concat_getLast ne).symm⟩
      conv => whnf
      refine ⟨_, _, A2, .int i, by simp [isD], ?_⟩
      have e9 : (isD (js ++ [i])).dropLast = isD js := by simp [isD]
      have i0 := ok.i0 i (by simp)
      conv => whnf
      rw [e9]
      refine ⟨⟨by decide, by decide, by decide⟩, ?_⟩
      conv => whnf
      have A4 := At.app (At.here (a := b) (c := .lx [.r (.ref c), I n, I m]) (Ω := (c, .lst (isD js)) :: R)) L
      refine br_d (fun gt => ?_) fun le => ?_
      · conv => whnf
        refine ⟨_, _, A4, ?_⟩
        conv => whnf
        refine ⟨1, rfl, ?_⟩
        conv => whnf
        exact ⟨_, by simp, _, _, _, rfl, rfl, rfl, i0, ok.m0, ok.m1, fun j hj => ok.i0 j (by simp [hj])⟩
      · conv => whnf
        refine ⟨_, _, A4, ?_⟩
        conv => whnf
        refine ⟨1, rfl, ?_⟩
        conv => whnf
        exact ⟨_, by simp, _, _, _, rfl, rfl, rfl, Int.le_refl 0, ok.m0, ok.m1, fun j hj => ok.i0 j (by simp [hj])⟩
  · conv => whnf
    refine br_F ?_
    exact fin ρ2
theorem w_l_own_bag (Cl : Cls) (Fr : Addr → Prop) (svs : List SV) (Ω : Om) (Φ : PhiE) (Ξ : XA) (h : c_l_own_bag svs Ω Φ Ξ) :
    a_l_own_bag Cl Fr { nx := fun _ Ω => Φ (.d .none) Ω, rt := Φ } (startR N_l_own_bag svs) Ω := by
  obtain ⟨ok, k⟩ := h
  rename_i ns
  have cl := Nat.le_trans (cutD_len ns none (some 63)) ok.1
  conv => whnf
  refine ⟨?_, ?_⟩
  · rw [List.length_map, cutD_isD, isD, List.length_map]
    omega
  refine ⟨fun i acc Ω' => ∃ is : List Int, acc = (isD is).map SV.d ∧ Ω' = [] ∧ is.length = i ∧ ∀ z ∈ is, 0 ≤ z, ⟨[], rfl, rfl, rfl, by simp⟩, fun i acc Ω' ⟨is, h1, h2, h3, h4⟩ => ⟨trivial, by rw [h1, List.length_map, isD, List.length_map]; omega⟩, ?_, ?_⟩
  · rintro i x acc _ e ⟨is, rfl, rfl, rfl, nn⟩
    rw [cutD_isD] at e
    obtain ⟨z, -, rfl⟩ := get_isD e
    conv => whnf
    refine br_T ?_
    conv => whnf
    refine ⟨is ++ [if z < 0 then -z else z], ?_, rfl, by simp, ?_⟩
    · rw [← app_isD, List.map_append]
      rfl
    · intro y hy
      rcases List.mem_append.mp hy with hy | hy
      · exact nn y hy
      · obtain rfl := List.mem_singleton.mp hy
        split <;> omega
  rintro acc _ ⟨is, rfl, rfl, ln, nn⟩
  rw [List.length_map, cutD_isD, isD, List.length_map] at ln
  refine newX_d ?_
  conv => whnf
  refine ⟨fun j ρ Ω' => ∃ (mx : Int) (ρ3 : Option SV), ρ = [some (.l (isD ns)), some (.d (.list (isD is))), some (I mx), ρ3] ∧ Ω' = [] ∧ 0 ≤ mx ∧ mx < 2147483647, ⟨_, _, rfl, rfl, ?_, ?_⟩, fun _ _ _ _ => trivial, ?_, ?_⟩
  · omega
  · rw [isD, List.length_map]; omega
  · rintro j x ρ _ e ⟨mx, ρ3, rfl, rfl, m0, m1⟩
    obtain ⟨z, -, rfl⟩ := get_isD e
    conv => whnf
    refine ⟨cmul (by omega) (by omega) (by omega) (by omega), ?_⟩
    conv => whnf
    refine ⟨(by decide : (0 : Int) < 2147483629), ?_⟩
    conv => whnf
    refine ⟨(by decide : (0 : Int) < 2147483647), ?_⟩
    conv => whnf
    exact ⟨_, _, rfl, rfl, Int.emod_nonneg _ (by omega), Int.emod_lt_of_pos _ (by omega)⟩
  · rintro ρ _ ⟨mx, ρ3, rfl, rfl, m0, m1⟩
    conv => whnf
    refine ⟨trivial, ?_⟩
    intro c fc
    conv => whnf
    refine ⟨(by decide : 3 ≤ sizeLine), ?_⟩
    intro b fb
    conv => whnf
    have e : (isD is).reverse = isD is.reverse := by rw [isD, isD, List.map_reverse]
    refine k _ _ ?_
    show Bag (.r (.ref b)) [] [] ([(b, .lx [.r (.ref c), I 0, I mx]), (c, .lst (isD is).reverse)])
    rw [e]
    exact .mk (L := []) rfl ⟨Int.le_refl 0, m0, m1, fun i hi => nn i (List.mem_reverse.mp hi)⟩
section
local macro_rules | `(tactic| walk_at "z1") => `(tactic| ((try dsimp only); first | done | exact True.intro | rfl | omega | exact Nat.le_of_ble_eq_true rfl | (exact ⟨by omega, by omega⟩) | (exact cmul (by omega) (by omega) (by omega) (by omega)) | (exact cdiv (by omega) (by omega)) | (exact Or.inl ⟨by omega, by omega⟩) | (exact Or.inr ⟨by omega, by omega⟩) | decide | assumption | (simp only [List.length_map, List.length_range, List.length_append, List.length_cons, List.length_nil, List.length_replicate, len_repD]; omega)))
local macro_rules | `(tactic| walk_at "zs") => `(tactic| ((conv => whnf); first | with_reducible refine br_T ?_ | with_reducible refine br_F ?_ | with_reducible refine br_d1 rfl ?_ | with_reducible refine br_n ?_ | ((with_reducible refine br_d1 ?_ ?_); (focus omega)) | ((with_reducible refine br_d0 ?_ ?_); (focus omega)) | ((fail_if_success with_reducible refine br_d ?_ ?_); refine br_T ?_) | ((fail_if_success with_reducible refine br_d ?_ ?_); refine br_F ?_) | refine And.intro (by walk_at "z1") ?_ | refine ⟨⟨_, _, .here, trivial⟩, ?_⟩ | refine ⟨_, _, .here, ?_⟩ | refine ⟨_, true, rfl, rfl, ?_⟩ | refine ⟨_, false, rfl, rfl, ?_⟩ | refine ⟨_, (by rfl : atI _ _ = some _), ?_⟩ | refine ⟨_, (by assumption : atI _ _ = some _), ?_⟩))
theorem w_is_number (Cl : Cls) (Fr : Addr → Prop) (svs : List SV) (Ω : Om) (Φ : PhiE) (Ξ : XA) (h : c_is_number svs Ω Φ Ξ) :
    a_is_number Cl Fr { nx := fun _ Ω => Φ (.d .none) Ω, rt := Φ } (startR N_is_number svs) Ω := by
  obtain ⟨k⟩ := h
  rename_i d
  cases d <;> (((repeat walk_at "zs"); (try conv => whnf)); exact k)
theorem w_is_within (Cl : Cls) (Fr : Addr → Prop) (svs : List SV) (Ω : Om) (Φ : PhiE) (Ξ : XA) (h : c_is_within svs Ω Φ Ξ) :
    a_is_within Cl Fr { nx := fun _ Ω => Φ (.d .none) Ω, rt := Φ } (startR N_is_within svs) Ω := by
  obtain ⟨k⟩ := h
  rename_i d lo hi
  conv => whnf
  refine .mk ?_
  cases d with
  | int i =>
    conv => whnf
    refine br_T ?_
    conv => whnf
    refine br_d (fun h => ?_) fun h => ?_
    · conv => whnf
      have e : decide (i ≤ hi) = okW lo hi (.int i) := by
        unfold okW
        by_cases z : i ≤ hi <;> simp [h, z]
      dsimp only
      rw [e]
      exact k
    · have e : false = okW lo hi (.int i) := by
        unfold okW
        simp [h]
      conv => whnf
      rw [e]
      exact k
  | _ =>
    ((repeat walk_at "zs"); (try conv => whnf))
    exact k
theorem w_in_least_terms (Cl : Cls) (Fr : Addr → Prop) (svs : List SV) (Ω : Om) (Φ : PhiE) (Ξ : XA) (h : c_in_least_terms svs Ω Φ Ξ) :
    a_in_least_terms Cl Fr { nx := fun _ Ω => Φ (.d .none) Ω, rt := Φ } (startR N_in_least_terms svs) Ω := by
  obtain ⟨a0, b0, b1, k⟩ := h
  rename_i a b
  have g : 0 < ((Nat.gcd a.natAbs b.natAbs : Nat) : Int) := g2_pos (a := a) (b := b) (by omega)
  have cd : ∀ i, CDivW i ((Nat.gcd a.natAbs b.natAbs : Nat) : Int) := fun i => ⟨g, b9_log (by omega) b1⟩
  conv => whnf
  refine ⟨cd _, ?_⟩
  conv => whnf
  refine ⟨cd _, ?_⟩
  conv => whnf
  exact ⟨Nat.le_of_ble_eq_true rfl, k⟩
theorem w_l_gcd (Cl : Cls) (Fr : Addr → Prop) (svs : List SV) (Ω : Om) (Φ : PhiE) (Ξ : XA) (h : c_l_gcd svs Ω Φ Ξ) :
    a_l_gcd Cl Fr { nx := fun _ Ω => Φ (.d .none) Ω, rt := Φ } (startR N_l_gcd svs) Ω := by
  obtain ⟨a0, b0, k⟩ := h
  rename_i a b
  conv => whnf
  refine ⟨fun m ρ Ω' => ∃ c d : Int, ρ = [some (I c), some (I d)] ∧ Ω' = Ω ∧ 0 ≤ c ∧ 0 ≤ d ∧ m = d.natAbs ∧ g2 c d = g2 a b, ⟨_, a, b, rfl, rfl, a0, b0, rfl, rfl⟩, ?_⟩
  rintro m ρ _ ⟨c, d, rfl, rfl, c0, d0, rfl, e⟩
  conv => whnf
  refine br_n (br_d (fun z => ?_) fun z => ?_)
  · conv => whnf
    have z' : d = 0 := z
    subst z'
    have : g2 c 0 = c := by
      unfold g2
      rw [show (0 : Int).natAbs = 0 from rfl, Nat.gcd_zero_right]
      omega
    rw [← e, this] at k
    exact k
  · have z' : d ≠ 0 := z
    conv => whnf
    refine ⟨by omega, ?_⟩
    conv => whnf
    have m0 := Int.emod_nonneg c z'
    have m1 := Int.emod_lt_of_pos c (show 0 < d by omega)
    refine ⟨_, ?_, d, c % d, rfl, rfl, d0, m0, rfl, ?_⟩
    · omega
    · rw [← e]
      unfold g2
      rw [Nat.gcd_comm c.natAbs, Nat.gcd_rec d.natAbs c.natAbs, Int.natAbs_emod_of_nonneg c0, Nat.gcd_comm]
theorem w_l_least (Cl : Cls) (Fr : Addr → Prop) (svs : List SV) (Ω : Om) (Φ : PhiE) (Ξ : XA) (h : c_l_least svs Ω Φ Ξ) :
    a_l_least Cl Fr { nx := fun _ Ω => Φ (.d .none) Ω, rt := Φ } (startR N_l_least svs) Ω := by
  obtain ⟨a0, b0, b1, k⟩ := h
  rename_i a b
  have g : 0 < g2 a b := g2_pos (a := a) (b := b) (by omega)
  have g' : g2 a b ≤ b := g2_le (a := a) (b := b) (by omega)
  have cd : ∀ i, CDivW i (g2 a b) := fun i => ⟨g, b9_log (by omega) (by omega)⟩
  conv => whnf
  refine .mk a0 (by omega) ?_
  conv => whnf
  refine ⟨cd _, ?_⟩
  conv => whnf
  refine ⟨cd _, ?_⟩
  conv => whnf
  exact ⟨Nat.le_of_ble_eq_true rfl, k⟩
theorem w_l_like (Cl : Cls) (n : Nat) (Fr : Addr → Prop) (svs : List SV) (Ω : Om) (Φ : PhiE) (Ξ : XA) (h : c_l_like n svs Ω Φ Ξ) :
    a_l_like (recC c_l_like n) Cl Fr { nx := fun _ Ω => Φ (.d .none) Ω, rt := Φ } (startR N_l_like svs) Ω := by
  obtain ⟨ok, k⟩ := h
  rename_i d
  cases d with
  | none =>
    ((repeat walk_at "zs"); (try conv => whnf))
    exact k
  | int i =>
    ((repeat walk_at "zs"); (try conv => whnf))
    rw [decide_eq_true rfl]
    exact k
  | str s =>
    ((repeat walk_at "zs"); (try conv => whnf))
    rw [decide_eq_true rfl]
    exact k
  | tuple ds =>
    cases n with
    | zero => unfold LikeOk at ok; exact ok.elim
    | succ n =>
      unfold LikeOk at ok
      obtain ⟨ln, ok⟩ := ok
      ((repeat walk_at "zs"); (try conv => whnf))
      refine lc_at (fun _ => .bool true) (fun Ω' => Ω' = Ω) (by rw [rgS_len]; omega) rfl (fun _ _ => trivial) (fun i x Ω2 Y N e hj kk => ?_) fun Ω2 e => ?_
      · subst hj
        obtain ⟨rfl, lt⟩ := rgS_get e
        have g : ds[(0 + (i : Int)).toNat]? = some ds[i] := by rw [show (0 + (i : Int)).toNat = i by omega]; exact List.getElem?_eq_getElem (by omega)
        ((repeat walk_at "zs"); (try conv => whnf))
        refine ⟨_, atI_i (by omega) g, ?_⟩
        conv => whnf
        refine ⟨_, atI_i (by omega) g, ?_⟩
        conv => whnf
        refine .mk (ok _ (List.getElem_mem _)) ?_
        exact kk _ rfl
      · subst e
        conv => whnf
        refine ⟨List.replicate ds.length true, trivial, ?_, ?_⟩
        · rw [List.map_replicate, List.map_const', List.length_range, rgS_len, Int.toNat_natCast]
        · have e2 : ∀ n : Nat, (List.replicate n true).all id = true := by intro n; simp
          rw [e2]
          exact k
  | bool b => cases n <;> (unfold LikeOk at ok; exact ok.elim)
  | list b => cases n <;> (unfold LikeOk at ok; exact ok.elim)
  | dict b => cases n <;> (unfold LikeOk at ok; exact ok.elim)
theorem pow_mx : ((10 : Int) ^ Int.toNat 40) ^ Int.toNat 4 = Mx := by unfold Mx; decide +kernel
theorem w_l_most (Cl : Cls) (Fr : Addr → Prop) (svs : List SV) (Ω : Om) (Φ : PhiE) (Ξ : XA) (h : c_l_most svs Ω Φ Ξ) :
    a_l_most Cl Fr { nx := fun _ Ω => Φ (.d .none) Ω, rt := Φ } (startR N_l_most svs) Ω := by
  obtain ⟨k⟩ := h
  conv => whnf
  refine ⟨⟨by decide, by decide +kernel⟩, ?_⟩
  conv => whnf
  refine ⟨⟨by decide, by decide +kernel⟩, ?_⟩
  have k : Φ (I (((10 : Int) ^ Int.toNat 40) ^ Int.toNat 4)) Ω := by rw [pow_mx]; exact k
  exact k
theorem w_l_great (Cl : Cls) (Fr : Addr → Prop) (svs : List SV) (Ω : Om) (Φ : PhiE) (Ξ : XA) (h : c_l_great svs Ω Φ Ξ) :
    a_l_great Cl Fr { nx := fun _ Ω => Φ (.d .none) Ω, rt := Φ } (startR N_l_great svs) Ω := by
  obtain ⟨hB, b0, b1, k⟩ := h
  rename_i x b L R
  conv => whnf
  refine ⟨⟨by decide, by decide, by decide⟩, ?_⟩
  conv => whnf
  refine .mk hB (by decide) (bel (by decide) (by decide)) fun r1 Ω r10 r11 hB => ?_
  conv => whnf
  refine ⟨⟨by decide, by decide, by decide⟩, ?_⟩
  conv => whnf
  refine ⟨cdiv (by decide) (by decide), ?_⟩
  conv => whnf
  have r11 : r1 < 1000000000 := r11
  have mx := mx_lo
  have sm : ∀ r : Int, 0 ≤ r → r < 1000000000 → Bg r := fun r h0 h1 => bg_mx h0 (by omega)
  refine ⟨bg_mul (sm _ r10 r11) (bg_mx (a := b / 10 ^ 9) (by omega) (by omega)), ?_⟩
  conv => whnf
  refine ⟨⟨by decide, by decide, by decide⟩, ?_⟩
  conv => whnf
  refine .mk hB (by decide) (bel (by decide) (by decide)) fun r2 Ω r20 r21 hB => ?_
  have r21 : r2 < 1000000000 := r21
  conv => whnf
  refine ⟨⟨by decide, by decide, by decide⟩, ?_⟩
  conv => whnf
  refine ⟨cdiv (by decide) (by decide), ?_⟩
  conv => whnf
  refine ⟨bg_mul (sm _ r20 r21) (bg_mx (a := b / 10 ^ 18 + 1) (by omega) (by omega)), ?_⟩
  conv => whnf
  refine ⟨⟨by decide, by decide, by decide⟩, ?_⟩
  conv => whnf
  refine .mk hB (by decide) (bel (by decide) (by decide)) fun r3 Ω r30 r31 hB => ?_
  conv => whnf
  refine ⟨by omega, ?_⟩
  conv => whnf
  exact k _ _ (Int.emod_nonneg _ (by omega)) (Int.emod_lt_of_pos _ (by omega)) hB
theorem w_l_add (Cl : Cls) (Fr : Addr → Prop) (svs : List SV) (Ω : Om) (Φ : PhiE) (Ξ : XA) (h : c_l_add svs Ω Φ Ξ) :
    a_l_add Cl Fr { nx := fun _ Ω => Φ (.d .none) Ω, rt := Φ } (startR N_l_add svs) Ω := by
  obtain ⟨b0, d0, d1, c1, c2, ba, bb, bc, nn, k⟩ := h
  rename_i a b c d
  have f := g2_pos (a := b) (b := d) (by omega)
  have f' := g2_le (a := b) (b := d) (by omega)
  obtain ⟨nn2, e⟩ := add_least b0 d0 c1 c2 nn
  have s := g2_pos (a := a * (d / g2 b d) + c * (b / g2 b d)) (b := g2 b d) f
  have s' := g2_le (a := a * (d / g2 b d) + c * (b / g2 b d)) (b := g2 b d) f
  have cd : ∀ i, CDivW i (g2 b d) := fun i => ⟨f, b9_log (by omega) (by omega)⟩
  have cs : ∀ i, CDivW i (g2 (a * (d / g2 b d) + c * (b / g2 b d)) (g2 b d)) := fun i => ⟨s, b9_log (by omega) (by omega)⟩
  have qd : ∀ z i : Int, 0 ≤ i → 0 < z → 0 ≤ i / z ∧ i / z ≤ i := fun z i h h2 => ⟨Int.ediv_nonneg h (by omega), Int.ediv_le_self _ h⟩
  have bd : Bg (d / g2 b d) := bg_b9 (qd _ _ (by omega) f).1 (Int.le_trans (qd _ _ (by omega) f).2 d1)
  have bb' : Bg (b / g2 b d) := bg_mono (qd _ _ (by omega) f).1 (qd _ _ (by omega) f).2 bb
  have bd2 : Bg (d / g2 (a * (d / g2 b d) + c * (b / g2 b d)) (g2 b d)) := bg_b9 (qd _ _ (by omega) s).1 (Int.le_trans (qd _ _ (by omega) s).2 d1)
  ((repeat walk_at "zs"); (try conv => whnf))
  refine .mk (by omega) (by omega) ?_
  ((repeat walk_at "zs"); (try conv => whnf))
  refine ⟨cd _, ?_⟩
  conv => whnf
  refine ⟨bg_mul ba bd, ?_⟩
  ((repeat walk_at "zs"); (try conv => whnf))
  refine ⟨cd _, ?_⟩
  conv => whnf
  refine ⟨bg_mul bc bb', ?_⟩
  ((repeat walk_at "zs"); (try conv => whnf))
  dsimp only
  rw [if_neg (by omega)]
  refine .mk nn2 (by omega) ?_
  ((repeat walk_at "zs"); (try conv => whnf))
  refine ⟨cs _, ?_⟩
  ((repeat walk_at "zs"); (try conv => whnf))
  refine ⟨cd _, ?_⟩
  ((repeat walk_at "zs"); (try conv => whnf))
  refine ⟨cs _, ?_⟩
  conv => whnf
  refine ⟨bg_mul bb' bd2, ?_⟩
  ((repeat walk_at "zs"); (try conv => whnf))
  rw [← e] at k
  exact k
end
section
local macro_rules | `(tactic| walk_at "z1") => `(tactic| ((try dsimp only); first | done | exact True.intro | rfl | omega | exact Nat.le_of_ble_eq_true rfl | (exact ⟨by omega, by omega⟩) | (exact cmul (by omega) (by omega) (by omega) (by omega)) | (exact cdiv (by omega) (by omega)) | (exact Or.inl ⟨by omega, by omega⟩) | (exact Or.inr ⟨by omega, by omega⟩) | decide | assumption | (simp only [List.length_map, List.length_range, List.length_append, List.length_cons, List.length_nil, List.length_replicate, len_repD]; omega)))
local macro_rules | `(tactic| walk_at "zs") => `(tactic| ((conv => whnf); first | with_reducible refine br_T ?_ | with_reducible refine br_F ?_ | with_reducible refine br_d1 rfl ?_ | with_reducible refine br_n ?_ | ((with_reducible refine br_d1 ?_ ?_); (focus omega)) | ((with_reducible refine br_d0 ?_ ?_); (focus omega)) | ((fail_if_success with_reducible refine br_d ?_ ?_); refine br_T ?_) | ((fail_if_success with_reducible refine br_d ?_ ?_); refine br_F ?_) | refine And.intro (by walk_at "z1") ?_ | refine ⟨⟨_, _, .here, trivial⟩, ?_⟩ | refine ⟨_, _, .here, ?_⟩ | refine ⟨_, true, rfl, rfl, ?_⟩ | refine ⟨_, false, rfl, rfl, ?_⟩ | refine ⟨_, (by rfl : atI _ _ = some _), ?_⟩ | refine ⟨_, (by assumption : atI _ _ = some _), ?_⟩))
theorem w_greedy_units (Cl : Cls) (Fr : Addr → Prop) (svs : List SV) (Ω : Om) (Φ : PhiE) (Ξ : XA) (h : c_greedy_units svs Ω Φ Ξ) :
    a_greedy_units Cl Fr { nx := fun _ Ω => Φ (.d .none) Ω, rt := Φ } (startR N_greedy_units svs) Ω := by
  obtain ⟨fx, k⟩ := h
  rename_i x y
  have g0 := gr_chk fx
  obtain ⟨y0, y1, x0, x1⟩ := fx
  have mx := mx_lo
  conv => whnf
  refine ⟨by decide, ?_⟩
  intro a fa
  conv => whnf
  refine ⟨fun m ρ Ω' => ∃ (c d : Int) (is : List Int) (ρ3 : Option SV), ρ = [some (I c), some (I d), some (.r (.ref a)), ρ3] ∧ Ω' = (a, .lst (isD is)) :: Ω ∧ 0 ≤ c ∧ c ≤ 100 ∧ 1 ≤ d ∧ m = c.toNat ∧ grW x y = is ++ grW c d, ⟨_, x, y, [], _, rfl, rfl, by omega, by omega, by omega, rfl, by simp⟩, ?_⟩
  rintro m ρ _ ⟨c, d, is, ρ3, rfl, rfl, c0, c1, d0, rfl, e⟩
  conv => whnf
  refine br_d (fun z => ?_) fun z => ?_
  · have n := cl_next (y := d) z
    have le := cl_le (y := d) z
    have ec := grW_pos (y := d) z
    have lm := g0.au.u.i (cl c d) (by rw [e, ec]; simp)
    have dm : d ≤ 100 * Mx := by
      have := Int.mul_le_mul c1 lm.2 (by omega) (by omega)
      omega
    have bc := bg_mx (a := c) (by omega) (by omega)
    have bm := bg_mx (a := cl c d) (by omega) lm.2
    have hm := mx_hi
    have bdd : Bg d := bg_i (k := 600) (by omega) (Int.le_trans dm (by have := mx_hi; exact Int.le_trans (Int.mul_le_mul_of_nonneg_left mx_hi (by decide)) (by decide +kernel))) (by decide)
    conv => whnf
    refine ⟨cdiv (by omega) (by omega), ?_⟩
    conv => whnf
    have A := At.here (a := a) (c := .lst (isD is)) (Ω := Ω)
    refine ⟨⟨_, _, A, trivial⟩, ?_⟩
    conv => whnf
    have il : is.length ≤ 20 := by have := g0.au.n; rw [e, List.length_append] at this; omega
    refine ⟨_, _, A, by rw [isD, List.length_map]; exact Nat.lt_of_lt_of_le (by omega : is.length < 1000) (by decide), ?_⟩
    conv => whnf
    refine ⟨bg_mul bc bm, ?_⟩
    conv => whnf
    refine ⟨bg_mul bdd bm, ?_⟩
    conv => whnf
    have p1 : 1 ≤ d * cl c d := Int.mul_pos (by omega) (by omega)
    refine .mk n.1 p1 ?_ ?_
    · rcases Int.lt_or_eq_of_le n.1 with w | w
      · have k1 : g2 (c * cl c d - d) (d * cl c d) ≤ c * cl c d - d := by
          have := Nat.le_of_dvd (show 0 < (c * cl c d - d).natAbs by omega) (Nat.gcd_dvd_left (c * cl c d - d).natAbs (d * cl c d).natAbs)
          unfold g2
          omega
        exact Int.le_trans k1 (b9_sm (by omega))
      · have k1 := g2_le (a := c * cl c d - d) (b := d * cl c d) (by omega)
        have k2 : d * cl c d ≤ 100 * Mx * Mx := Int.mul_le_mul dm lm.2 (by omega) (by omega)
        have k3 : 100 * Mx * Mx ≤ 100 * 2 ^ 540 * 2 ^ 540 := Int.mul_le_mul (Int.mul_le_mul_of_nonneg_left mx_hi (by decide)) mx_hi (by omega) (by decide)
        exact Int.le_trans k1 (Int.le_trans k2 (Int.le_trans k3 (Int.le_trans (by decide +kernel) (b9_le (k := 2000) (by decide)))))
    ((repeat walk_at "zs"); (try conv => whnf))
    have r := least_rng n.1 (show 0 < d * cl c d by omega)
    have cr := least_cross (a := c * cl c d - d) (b := d * cl c d) (by omega)
    refine ⟨_, ?_, (least (c * cl c d - d) (d * cl c d)).1, (least (c * cl c d - d) (d * cl c d)).2, is ++ [cl c d], _, rfl, ?_, r.1, by omega, r.2.2.1, rfl, ?_⟩
    · omega
    · rw [← app_isD]; rfl
    · rw [e, ec, List.append_assoc]
      congr 1
      show cl c d :: _ = cl c d :: _
      congr 1
      refine gr_ratio (c * cl c d - d).toNat _ _ _ _ n.1 r.1 (by omega) ⟨fun q => by have := r.2.2.2.2 q; omega, fun q => by omega⟩ cr.symm
  · conv => whnf
    have : c = 0 := by omega
    subst this
    rw [grW_zero, List.append_nil] at e
    subst e
    exact ⟨_, _, .here, _, .cons _ (.refl _), k⟩
theorem w_l_greedy (Cl : Cls) (Fr : Addr → Prop) (svs : List SV) (Ω : Om) (Φ : PhiE) (Ξ : XA) (h : c_l_greedy svs Ω Φ Ξ) :
    a_l_greedy Cl Fr { nx := fun _ Ω => Φ (.d .none) Ω, rt := Φ } (startR N_l_greedy svs) Ω := by
  obtain ⟨fx, k⟩ := h
  rename_i x y
  have g0 := gr_chk fx
  obtain ⟨y0, y1, x0, x1⟩ := fx
  have mx := mx_lo
  conv => whnf
  refine ⟨by decide, ?_⟩
  intro a fa
  conv => whnf
  refine ⟨fun m ρ Ω' => ∃ (c d : Int) (is : List Int) (ρ3 : Option SV), ρ = [some (I x), some (I y), some (I c), some (I d), some (.r (.ref a)), ρ3] ∧ Ω' = (a, .lst (isD is)) :: Ω ∧ 0 ≤ c ∧ c ≤ 100 ∧ 1 ≤ d ∧ m = c.toNat ∧ grW x y = is ++ grW c d, ⟨_, x, y, [], _, rfl, rfl, by omega, by omega, by omega, rfl, by simp⟩, ?_⟩
  rintro m ρ _ ⟨c, d, is, ρ3, rfl, rfl, c0, c1, d0, rfl, e⟩
  conv => whnf
  refine br_d (fun z => ?_) fun z => ?_
  · have n := cl_next (y := d) z
    have le := cl_le (y := d) z
    have ec := grW_pos (y := d) z
    have q := cl_law (y := d) z
    have lm := g0.au.u.i (cl c d) (by rw [e, ec]; simp)
    have dm : d ≤ 100 * Mx := by
      have := Int.mul_le_mul c1 lm.2 (by omega) (by omega)
      omega
    have bc := bg_mx (a := c) (by omega) (by omega)
    have bm := bg_mx (a := cl c d) (by omega) lm.2
    have bdd : Bg d := bg_i (k := 600) (by omega) (Int.le_trans dm (by have := mx_hi; exact Int.le_trans (Int.mul_le_mul_of_nonneg_left mx_hi (by decide)) (by decide +kernel))) (by decide)
    rw [← q] at n bm ec
    conv => whnf
    refine ⟨cdiv (by omega) (by omega), ?_⟩
    conv => whnf
    have A := At.here (a := a) (c := .lst (isD is)) (Ω := Ω)
    refine ⟨⟨_, _, A, trivial⟩, ?_⟩
    conv => whnf
    have il : is.length ≤ 20 := by have := g0.au.n; rw [e, List.length_append] at this; omega
    refine ⟨_, _, A, by rw [isD, List.length_map]; exact Nat.lt_of_lt_of_le (by omega : is.length < 1000) (by decide), ?_⟩
    conv => whnf
    refine ⟨bg_mul bc bm, ?_⟩
    conv => whnf
    refine ⟨bg_mul bdd bm, ?_⟩
    conv => whnf
    have p1 : 1 ≤ d * ((d + c - 1) / c) := Int.mul_pos (by omega) (by rw [q]; omega)
    refine ⟨_, ?_, c * ((d + c - 1) / c) - d, d * ((d + c - 1) / c), is ++ [(d + c - 1) / c], _, rfl, ?_, n.1, by omega, p1, rfl, ?_⟩
    · omega
    · rw [← app_isD]; rfl
    · rw [e, ec]; simp
  · conv => whnf
    have : c = 0 := by omega
    subst this
    rw [grW_zero, List.append_nil] at e
    subst e
    exact ⟨_, _, .here, _, .cons _ (.refl _), k⟩
theorem take_one {is : List Int} {j : Nat} {z : Int} (h : is[j]? = some z) : is.take (j + 1) = is.take j ++ [z] := by
  rw [List.take_add_one, h]; rfl
theorem Uv.take {is : List Int} (h : Uv is) (j : Nat) : Uv (is.take j) := ⟨by have := h.n; rw [List.length_take]; omega, fun i hi => h.i i (List.mem_of_mem_take hi)⟩
theorem w_units_sum (Cl : Cls) (Fr : Addr → Prop) (svs : List SV) (Ω : Om) (Φ : PhiE) (Ξ : XA) (h : c_units_sum svs Ω Φ Ξ) :
    a_units_sum Cl Fr { nx := fun _ Ω => Φ (.d .none) Ω, rt := Φ } (startR N_units_sum svs) Ω := by
  obtain ⟨uv, k⟩ := h
  rename_i is
  ((repeat walk_at "zs"); (try conv => whnf))
  refine ⟨fun j ρ Ω' => ∃ (ρ3 : Option SV), ρ = [some (T (isD is)), some (I (lv (is.take j)).1), some (I (lv (is.take j)).2), ρ3] ∧ Ω' = Ω, ⟨none, by rw [List.take_zero, lv_nil]; rfl, rfl⟩, fun _ _ _ _ => trivial, ?_, ?_⟩
  · rintro j y ρ _ e ⟨ρ3, rfl, rfl⟩
    obtain ⟨z, hz, rfl⟩ := get_isD e
    have ut := uv.take j
    have lb := ut.lbg
    have lp := lv_pos ut.one
    have z1 := uv.i z (List.mem_of_getElem? hz)
    have sn := lv_snoc ut.one z1.1
    rw [← take_one hz] at sn
    have bz := bg_mx (a := z) (by omega) z1.2
    ((repeat walk_at "zs"); (try conv => whnf))
    refine ⟨bg_mul lb.1 bz, ?_⟩
    ((repeat walk_at "zs"); (try conv => whnf))
    refine ⟨bg_mul lb.2 bz, ?_⟩
    ((repeat walk_at "zs"); (try conv => whnf))
    have n1 := Int.mul_nonneg lp.1 (show 0 ≤ z by omega)
    have n2 := Int.mul_pos (show 0 < (lv (is.take j)).2 by omega) (show 0 < z by omega)
    refine .mk (by omega) (by omega) ?_ ?_
    · have s := gcd_small lp.2.1 z1.1 lp.2.2
      have k3 : z * z ≤ 2 ^ 540 * 2 ^ 540 := Int.mul_le_mul (Int.le_trans z1.2 mx_hi) (Int.le_trans z1.2 mx_hi) (by omega) (by decide)
      exact Int.le_trans s (Int.le_trans k3 (Int.le_trans (by decide +kernel) (b9_le (k := 2000) (by decide))))
    · rw [sn]
      ((repeat walk_at "zs"); (try conv => whnf))
      exact ⟨_, rfl, rfl⟩
  · rintro ρ _ ⟨ρ3, rfl, rfl⟩
    rw [List.length_map, len_isD, List.take_length]
    ((repeat walk_at "zs"); (try conv => whnf))
    exact k
theorem w_l_sum (Cl : Cls) (Fr : Addr → Prop) (svs : List SV) (Ω : Om) (Φ : PhiE) (Ξ : XA) (h : c_l_sum svs Ω Φ Ξ) :
    a_l_sum Cl Fr { nx := fun _ Ω => Φ (.d .none) Ω, rt := Φ } (startR N_l_sum svs) Ω := by
  obtain ⟨uv, k⟩ := h
  rename_i is
  ((repeat walk_at "zs"); (try conv => whnf))
  refine ⟨fun j ρ Ω' => ∃ (ρ3 : Option SV), ρ = [some (T (isD is)), some (.d (prd (lv (is.take j)))), ρ3] ∧ Ω' = Ω, ⟨none, by rw [List.take_zero, lv_nil]; rfl, rfl⟩, fun _ _ _ _ => trivial, ?_, ?_⟩
  · rintro j y ρ _ e ⟨ρ3, rfl, rfl⟩
    obtain ⟨z, hz, rfl⟩ := get_isD e
    have ut := uv.take j
    have lb := ut.lbg
    have lp := lv_pos ut.one
    have z1 := uv.i z (List.mem_of_getElem? hz)
    have sn := lv_snoc2 ut.one z1.1
    rw [← take_one hz] at sn
    have n1 := Int.mul_nonneg lp.1 (show 0 ≤ z by omega)
    ((repeat walk_at "zs"); (try conv => whnf))
    refine c_l_add.mk (a := (lv (is.take j)).1) (b := (lv (is.take j)).2) (c := 1) (d := z) lp.2.1 z1.1 (Int.le_trans z1.2 mx_b9) lp.2.2 (Nat.gcd_one_left _) lb.1 lb.2 (bg_b9 (by decide) (b9_sm (by decide))) (by omega) ?_
    rw [sn]
    ((repeat walk_at "zs"); (try conv => whnf))
    exact ⟨_, rfl, rfl⟩
  · rintro ρ _ ⟨ρ3, rfl, rfl⟩
    rw [List.length_map, len_isD, List.take_length]
    ((repeat walk_at "zs"); (try conv => whnf))
    exact k
end
section
local macro_rules | `(tactic| walk_at "z1") => `(tactic| ((try dsimp only); first | done | exact True.intro | rfl | omega | exact Nat.le_of_ble_eq_true rfl | (exact ⟨by omega, by omega⟩) | (exact cmul (by omega) (by omega) (by omega) (by omega)) | (exact cdiv (by omega) (by omega)) | (exact Or.inl ⟨by omega, by omega⟩) | (exact Or.inr ⟨by omega, by omega⟩) | decide | assumption | (simp only [List.length_map, List.length_range, List.length_append, List.length_cons, List.length_nil, List.length_replicate, len_repD]; omega)))
local macro_rules | `(tactic| walk_at "zs") => `(tactic| ((conv => whnf); first | with_reducible refine br_T ?_ | with_reducible refine br_F ?_ | with_reducible refine br_d1 rfl ?_ | with_reducible refine br_n ?_ | ((with_reducible refine br_d1 ?_ ?_); (focus omega)) | ((with_reducible refine br_d0 ?_ ?_); (focus omega)) | ((fail_if_success with_reducible refine br_d ?_ ?_); refine br_T ?_) | ((fail_if_success with_reducible refine br_d ?_ ?_); refine br_F ?_) | refine And.intro (by walk_at "z1") ?_ | refine ⟨⟨_, _, .here, trivial⟩, ?_⟩ | refine ⟨_, _, .here, ?_⟩ | refine ⟨_, true, rfl, rfl, ?_⟩ | refine ⟨_, false, rfl, rfl, ?_⟩ | refine ⟨_, (by rfl : atI _ _ = some _), ?_⟩ | refine ⟨_, (by assumption : atI _ _ = some _), ?_⟩))
theorem due_form {x y : Int} {d : PyData} (h : isF d = false) : due x y d = .str "form" := by unfold due; rw [if_neg (by rw [h]; decide)]
theorem shp_form {d : PyData} (h : isF d = false) : shp d = .str "form" := by unfold shp; rw [if_neg (by rw [h]; decide)]
def FI (is : List Int) : Prop := isF (.tuple (isD is)) = true
theorem due_at {x y : Int} {is : List Int} {k : Nat} (h : FI is) (e : dnp is 1 = some k) : due x y (.tuple (isD is)) = ordD k := by
  unfold due
  rw [if_pos (show isF (.tuple (isD is)) = true from h)]
  show (match dnp ((isD is).map toI) 1 with | some k => ordD k | none => _) = _
  rw [toI_isD, e]
theorem due_end {x y : Int} {is : List Int} (h : FI is) (e : dnp is 1 = none) : due x y (.tuple (isD is)) = if lv is = least x y then .none else .tuple [.str "sum", prd (lv is)] := by
  unfold due
  rw [if_pos (show isF (.tuple (isD is)) = true from h)]
  show (match dnp ((isD is).map toI) 1 with | some k => ordD k | none => if lv ((isD is).map toI) = least x y then .none else .tuple [.str "sum", prd (lv ((isD is).map toI))]) = _
  rw [toI_isD, e]
theorem shp_at {is : List Int} {k : Nat} (h : FI is) (e : dnp is 1 = some k) : shp (.tuple (isD is)) = ordD k := by
  unfold shp
  rw [if_pos (show isF (.tuple (isD is)) = true from h)]
  show (match dnp ((isD is).map toI) 1 with | some k => ordD k | none => _) = _
  rw [toI_isD, e]
theorem shp_end {is : List Int} (h : FI is) (e : dnp is 1 = none) : shp (.tuple (isD is)) = .none := by
  unfold shp
  rw [if_pos (show isF (.tuple (isD is)) = true from h)]
  show (match dnp ((isD is).map toI) 1 with | some k => ordD k | none => _) = _
  rw [toI_isD, e]
theorem drop2 {is : List Int} {j : Nat} (h : j + 1 < is.length) : ∃ a b, is[j]? = some a ∧ is[j + 1]? = some b ∧ is.drop j = a :: b :: is.drop (j + 2) ∧ is.drop (j + 1) = b :: is.drop (j + 2) := by
  refine ⟨is[j], is[j + 1], List.getElem?_eq_getElem (by omega), List.getElem?_eq_getElem h, ?_, ?_⟩
  · rw [List.drop_eq_getElem_cons (by omega), List.drop_eq_getElem_cons h]
  · rw [List.drop_eq_getElem_cons h]
theorem dnp_end {is : List Int} {j : Nat} (h : is.length ≤ j + 1) (k : Nat) : dnp (is.drop j) k = none := by
  have : (is.drop j).length ≤ 1 := by rw [List.length_drop]; omega
  match is.drop j, this with
  | [], _ => rfl
  | [_], _ => rfl
  | _ :: _ :: _, q => simp at q
theorem dnp_cons {a b : Int} {r : List Int} {k : Nat} : dnp (a :: b :: r) k = if b ≤ a then some k else dnp (b :: r) (k + 1) := rfl
theorem ix_isD {is : List Int} {i : Int} {a : Int} (h0 : 0 ≤ i) (h : is[i.toNat]? = some a) : atI (isD is) i = some (.int a) := by
  refine atI_i h0 ?_
  rw [isD, List.getElem?_map, h]
  rfl
theorem w_units_error (Cl : Cls) (Fr : Addr → Prop) (svs : List SV) (Ω : Om) (Φ : PhiE) (Ξ : XA) (h : c_units_error svs Ω Φ Ξ) :
    a_units_error Cl Fr { nx := fun _ Ω => Φ (.d .none) Ω, rt := Φ } (startR N_units_error svs) Ω := by
  obtain ⟨fx, ln, k⟩ := h
  rename_i x y d
  cases d with
  | tuple ds =>
    have ln : ds.length ≤ 1000 := ln
    ((repeat walk_at "zs"); (try conv => whnf))
    refine br_d (fun gt => ?_) fun le => ?_
    · have f : isF (.tuple ds) = false := by
        show (decide (ds.length ≤ 20) && ds.all okI) = false
        rw [decide_eq_false (by omega)]; rfl
      rw [due_form f] at k
      ((repeat walk_at "zs"); (try conv => whnf))
      exact k
    have le : ds.length ≤ 20 := by omega
    ((repeat walk_at "zs"); (try conv => whnf))
    refine lc_bools okI (fun Ω' => Ω' = Ω) (by omega) rfl (fun _ _ => trivial) (fun d Ω2 Y N hd e kk => ?_) fun Ω2 e => ?_
    · subst e
      conv => whnf
      refine br_T ?_
      conv => whnf
      refine .mk ?_
      rw [mx_l]
      exact kk _ rfl
    have e' := e.symm
    subst e'
    clear e
    ((repeat walk_at "zs"); (try conv => whnf))
    refine ⟨_, trivial, rfl, ?_⟩
    rw [List.all_map, show (id ∘ okI) = okI from rfl]
    have fe : isF (.tuple ds) = ds.all okI := by
      show (decide (ds.length ≤ 20) && ds.all okI) = _
      rw [decide_eq_true le]; rfl
    cases f : ds.all okI with
    | false =>
      rw [f] at fe
      rw [due_form fe] at k
      ((repeat walk_at "zs"); (try conv => whnf))
      exact k
    | true =>
    rw [f] at fe
    obtain ⟨is, q, n20, uv, -⟩ := isF_ints fe
    cases q
    have fI : FI is := fe
    have li := len_isD is
    ((repeat walk_at "zs"); (try conv => whnf))
    refine ⟨fun j ρ Ω' => ∃ ρ1 ρ2 ρ3, ρ = [some (I x), some (I y), some (T (isD is)), ρ1, ρ2, ρ3] ∧ Ω' = Ω ∧ dnp (is.drop j) (j + 1) = dnp is 1, ⟨_, _, _, rfl, rfl, rfl⟩, fun _ _ _ _ => trivial, ?_, ?_⟩
    · rintro j v ρ _ e ⟨ρ1, ρ2, ρ3, rfl, rfl, hd⟩
      obtain ⟨rfl, lt⟩ := rgS_get e
      rw [len_isD] at lt
      obtain ⟨a, b, ha, hb, hdr, hd2⟩ := drop2 (is := is) (j := j) (by omega)
      have e1 : atI (isD is) (1 + (j : Int)) = some (.int b) := ix_isD (by omega) (by rw [show (1 + (j : Int)).toNat = j + 1 by omega]; exact hb)
      have e2 : atI (isD is) (1 + (j : Int) - 1) = some (.int a) := ix_isD (by omega) (by rw [show (1 + (j : Int) - 1).toNat = j by omega]; exact ha)
      conv => whnf
      refine ⟨_, e1, ?_⟩
      conv => whnf
      refine ⟨_, e2, ?_⟩
      conv => whnf
      rw [hdr, dnp_cons] at hd
      refine br_d (fun le => ?_) fun gt => ?_
      · rw [if_pos le] at hd
        rw [due_at fI hd.symm] at k
        ((repeat walk_at "zs"); (try conv => whnf))
        rw [show 1 + (j : Int) = ((j + 1 : Nat) : Int) by omega]
        exact k
      · rw [if_neg gt] at hd
        ((repeat walk_at "zs"); (try conv => whnf))
        exact ⟨_, _, _, rfl, rfl, by rw [hd2]; exact hd⟩
    · rintro ρ _ ⟨ρ1, ρ2, ρ3, rfl, rfl, hd⟩
      rw [rgS_len, dnp_end (by rw [len_isD]; omega)] at hd
      rw [due_end fI hd.symm] at k
      have lp := lv_pos uv.one
      obtain ⟨y0, y1, x0, x1⟩ := fx
      ((repeat walk_at "zs"); (try conv => whnf))
      refine .mk uv ?_
      ((repeat walk_at "zs"); (try conv => whnf))
      refine .mk (by omega) y0 ?_ ?_
      · exact Int.le_trans (g2_le (by omega)) (b9_sm (by omega))
      ((repeat walk_at "zs"); (try conv => whnf))
      rw [eqv_prd]
      refine br_d (fun q => ?_) fun q => ?_
      · rw [if_pos q] at k
        ((repeat walk_at "zs"); (try conv => whnf))
        exact k
      · rw [if_neg q] at k
        ((repeat walk_at "zs"); (try conv => whnf))
        exact k
  | _ =>
    rw [due_form rfl] at k
    ((repeat walk_at "zs"); (try conv => whnf))
    exact k
theorem w_l_shape (Cl : Cls) (Fr : Addr → Prop) (svs : List SV) (Ω : Om) (Φ : PhiE) (Ξ : XA) (h : c_l_shape svs Ω Φ Ξ) :
    a_l_shape Cl Fr { nx := fun _ Ω => Φ (.d .none) Ω, rt := Φ } (startR N_l_shape svs) Ω := by
  obtain ⟨ln, k⟩ := h
  rename_i d
  cases d with
  | tuple ds =>
    have ln : ds.length ≤ 1000 := ln
    ((repeat walk_at "zs"); (try conv => whnf))
    refine br_d (fun gt => ?_) fun le => ?_
    · have f : isF (.tuple ds) = false := by
        show (decide (ds.length ≤ 20) && ds.all okI) = false
        rw [decide_eq_false (by omega)]; rfl
      rw [shp_form f] at k
      ((repeat walk_at "zs"); (try conv => whnf))
      exact k
    have le : ds.length ≤ 20 := by omega
    have fe : isF (.tuple ds) = ds.all okI := by
      show (decide (ds.length ≤ 20) && ds.all okI) = _
      rw [decide_eq_true le]; rfl
    ((repeat walk_at "zs"); (try conv => whnf))
    refine ⟨fun j ρ Ω' => ∃ ρ1, ρ = [some (T ds), ρ1, none] ∧ Ω' = Ω ∧ (ds.take j).all okI = true, ⟨none, rfl, rfl, rfl⟩, fun _ _ _ _ => trivial, ?_, ?_⟩
    · rintro j x ρ Ω2 e ⟨ρ1, rfl, rfl, al⟩
      obtain ⟨d, hd, rfl⟩ := get_mapD e
      have bad : okI d = false → Φ (.d (.str "form")) Ω2 := fun q => by
        have z : ds.all okI = false := by
          rw [Bool.eq_false_iff]
          intro z
          have := List.all_eq_true.mp z d (List.mem_of_getElem? hd)
          rw [q] at this
          cases this
        rw [z] at fe
        rw [shp_form fe] at k
        exact k
      have good : okI d = true → (ds.take (j + 1)).all okI = true := fun q => by
        rw [List.take_add_one, hd]
        rw [List.all_append, al, Bool.true_and]
        simp only [Option.toList_some, List.all_cons, List.all_nil, Bool.and_true]
        exact q
      cases d with
      | int i =>
        have oi : okI (.int i) = (decide (1 ≤ i) && decide (i ≤ Mx)) := rfl
        ((repeat walk_at "zs"); (try conv => whnf))
        refine br_d (fun z => ?_) fun z => ?_
        · ((repeat walk_at "zs"); (try conv => whnf))
          exact bad (by rw [oi, decide_eq_false (by omega)]; rfl)
        · ((repeat walk_at "zs"); (try conv => whnf))
          refine .mk ?_
          ((repeat walk_at "zs"); (try conv => whnf))
          refine br_d (fun z2 => ?_) fun z2 => ?_
          · ((repeat walk_at "zs"); (try conv => whnf))
            exact bad (by rw [oi, decide_eq_false (p := i ≤ Mx) (by omega), Bool.and_false])
          · ((repeat walk_at "zs"); (try conv => whnf))
            exact ⟨_, rfl, rfl, good (by rw [oi, decide_eq_true (p := i ≤ Mx) (by omega), decide_eq_true (by omega)]; rfl)⟩
      | _ =>
        ((repeat walk_at "zs"); (try conv => whnf))
        exact bad rfl
    rintro ρ Ω2 ⟨ρ1, rfl, rfl, al⟩
    rw [List.length_map, List.take_length] at al
    rw [al] at fe
    obtain ⟨is, q, n20, uv, -⟩ := isF_ints fe
    cases q
    have fI : FI is := fe
    have li := len_isD is
    ((repeat walk_at "zs"); (try conv => whnf))
    refine ⟨fun j ρ Ω' => ∃ ρ1 ρ2, ρ = [some (T (isD is)), ρ1, ρ2] ∧ Ω' = Ω2 ∧ dnp (is.drop j) (j + 1) = dnp is 1, ⟨_, _, rfl, rfl, rfl⟩, fun _ _ _ _ => trivial, ?_, ?_⟩
    · rintro j v ρ _ e ⟨ρ1, ρ2, rfl, rfl, hd⟩
      obtain ⟨rfl, lt⟩ := rgS_get e
      rw [len_isD] at lt
      obtain ⟨a, b, ha, hb, hdr, hd2⟩ := drop2 (is := is) (j := j) (by omega)
      have e1 : atI (isD is) (1 + (j : Int)) = some (.int b) := ix_isD (by omega) (by rw [show (1 + (j : Int)).toNat = j + 1 by omega]; exact hb)
      have e2 : atI (isD is) (1 + (j : Int) - 1) = some (.int a) := ix_isD (by omega) (by rw [show (1 + (j : Int) - 1).toNat = j by omega]; exact ha)
      conv => whnf
      refine ⟨_, e1, ?_⟩
      conv => whnf
      refine ⟨_, e2, ?_⟩
      conv => whnf
      rw [hdr, dnp_cons] at hd
      refine br_d (fun le => ?_) fun gt => ?_
      · rw [if_pos le] at hd
        rw [shp_at fI hd.symm] at k
        ((repeat walk_at "zs"); (try conv => whnf))
        rw [show 1 + (j : Int) = ((j + 1 : Nat) : Int) by omega]
        exact k
      · rw [if_neg gt] at hd
        ((repeat walk_at "zs"); (try conv => whnf))
        exact ⟨_, _, rfl, rfl, by rw [hd2]; exact hd⟩
    · rintro ρ _ ⟨ρ1, ρ2, rfl, rfl, hd⟩
      rw [rgS_len, dnp_end (by rw [len_isD]; omega)] at hd
      rw [shp_end fI hd.symm] at k
      ((repeat walk_at "zs"); (try conv => whnf))
      exact k
  | _ =>
    rw [shp_form rfl] at k
    ((repeat walk_at "zs"); (try conv => whnf))
    exact k
theorem lo64 : (10 : Int) ^ 64 ≤ Mx := by unfold Mx; decide +kernel
theorem sq64 : (Mx * Mx * 10 ^ 64).natAbs < 2 ^ 1900 := by unfold Mx; decide +kernel
theorem sq_lt : Mx < Mx * Mx * 10 ^ 64 := by unfold Mx; decide +kernel
theorem w_l_odd (Cl : Cls) (Fr : Addr → Prop) (svs : List SV) (Ω : Om) (Φ : PhiE) (Ξ : XA) (h : c_l_odd svs Ω Φ Ξ) :
    a_l_odd Cl Fr { nx := fun _ Ω => Φ (.d .none) Ω, rt := Φ } (startR N_l_odd svs) Ω := by
  obtain ⟨hB, i0, i1, k⟩ := h
  rename_i x i L R
  have mx := mx_lo
  have l2 : i.natAbs.log2 < 1920 := by
    have := log2_lt (mx_nat (i := i) (by omega) (by omega)) (by decide)
    omega
  conv => whnf
  refine .mk ?_
  ((repeat walk_at "zs"); (try conv => whnf))
  have bm := bg_mx (a := Mx) (by omega) (by omega)
  refine ⟨bg_mul bm bm, ?_⟩
  conv => whnf
  refine ⟨⟨by decide, by decide, by decide⟩, ?_⟩
  conv => whnf
  have m2 : Mx * Mx ≤ 2 ^ 540 * 2 ^ 540 := Int.mul_le_mul mx_hi mx_hi (by omega) (by decide)
  have m3 : 1 ≤ Mx * Mx := Int.mul_pos (by omega) (by omega)
  have p64 : ((10 : Int) ^ Int.toNat 64) = 10 ^ 64 := by decide +kernel
  refine ⟨bg_mul (bg_i (k := 1080) (by omega) (Int.le_trans m2 (by decide +kernel)) (by decide)) (bg_mx (by decide) (by rw [p64]; exact Int.le_trans (by decide +kernel) lo64)), ?_⟩
  ((repeat walk_at "zs"); (try conv => whnf))
  refine .mk hB (by simp) (by simp) fun d hd Ω hB => ?_
  have : (∃ b, Rq 1 20100 b d) ∧ okI d = false := by
    have one : okI (.int i) = (decide (1 ≤ i) && decide (i ≤ Mx)) := rfl
    have oi : ∀ z : Int, z < 1 ∨ Mx < z → okI (.int z) = false := fun z h => by
      show (decide (1 ≤ z) && decide (z ≤ Mx)) = false
      rcases h with h | h
      · rw [decide_eq_false (by omega)]; rfl
      · rw [decide_eq_false (p := z ≤ Mx) (by omega), Bool.and_false]
    simp only [List.mem_cons, List.not_mem_nil, or_false] at hd
    rcases hd with rfl | rfl | rfl | rfl | rfl | rfl | rfl | rfl | rfl | rfl | rfl | rfl | rfl
    · exact ⟨⟨true, (mx_i true (by omega) (by omega)).mono (by decide) (by decide)⟩, oi _ (.inl (by decide))⟩
    · exact ⟨⟨true, (mx_i true (by omega) (by omega)).mono (by decide) (by decide)⟩, oi _ (.inl (by omega))⟩
    · exact ⟨⟨true, (rq_of rep_bool).mono (by decide) (by decide)⟩, rfl⟩
    · exact ⟨⟨true, (rq_of rep_bool).mono (by decide) (by decide)⟩, rfl⟩
    · exact ⟨⟨true, (rq_of rep_none).mono (by decide) (by decide)⟩, rfl⟩
    · exact ⟨⟨true, (rq_of (rep_str (by decide +kernel) (by decide +kernel))).mono (by decide) (by decide)⟩, rfl⟩
    · exact ⟨⟨true, (rq_text' true (mx_nat (by omega) (by omega))).mono (by decide) (by decide)⟩, rfl⟩
    · exact ⟨⟨true, (rq_tup (k := 0) (L := 20000) (n := 1) (ds := [.int i]) (fun d hd => by obtain rfl := List.mem_singleton.mp hd; exact mx_i true (by omega) (by omega)) (by simp)).mono (by decide) (by decide)⟩, rfl⟩
    · exact ⟨⟨true, rq_of ((rep_lst (k := 0) (L := 2000) (n := 1) (ds := [.int i]) (fun d hd => by obtain rfl := List.mem_singleton.mp hd; exact rep_int (mx_nat (by omega) (by omega))) (by simp)).mono (by decide) (by decide))⟩, rfl⟩
    · exact ⟨⟨false, (rq_dict1 (k := 0) (L := 20000) (x := "a") (d := .int i) (mx_i false (by omega) (by omega)) (by decide +kernel)).mono (by decide) (by decide)⟩, rfl⟩
    · exact ⟨⟨true, (mx_i true (by omega) (by omega)).mono (by decide) (by decide)⟩, oi _ (.inr (by omega))⟩
    · rw [p64]
      exact ⟨⟨true, (rq_int' true sq64).mono (by decide) (by decide)⟩, oi _ (.inr sq_lt)⟩
    · exact ⟨⟨true, (mx_i true (by omega) (by omega)).mono (by decide) (by decide)⟩, oi _ (.inl (by decide))⟩
  obtain ⟨⟨b, rq⟩, no⟩ := this
  exact k d b _ rq no hB
theorem w_split_unit (Cl : Cls) (Fr : Addr → Prop) (svs : List SV) (Ω : Om) (Φ : PhiE) (Ξ : XA) (h : c_split_unit Cl svs Ω Φ Ξ) :
    a_split_unit Cl Fr Ξ { nx := fun _ Ω => Φ (.d .none) Ω, rt := Φ } (startR N_split_unit svs) Ω := by
  obtain ⟨n0, n1, k1, k2⟩ := h
  rename_i n
  conv => whnf
  refine br_d (fun h => ?_) fun h => ?_
  · exact k2 h
  · ((repeat walk_at "zs"); (try conv => whnf))
    exact k1 h
theorem w_l_is_lone (Cl : Cls) (e1 : Addr) (Ω : Om) (Φ : PhiE) (h : Φ (.d (.bool true)) Ω) :
    a_l_is_lone Cl e1 { nx := fun _ Ω => Φ (.d .none) Ω, rt := Φ } (startR N_l_is_lone [.r (.ref e1)]) Ω := by
  ((repeat walk_at "zs"); (try conv => whnf))
  exact h
theorem w_l_split (Cl : Cls) (Fr : Addr → Prop) (svs : List SV) (Ω : Om) (Φ : PhiE) (Ξ : XA) (h : c_l_split svs Ω Φ Ξ) :
    a_l_split Cl Fr { nx := fun _ Ω => Φ (.d .none) Ω, rt := Φ } (startR N_l_split svs) Ω := by
  obtain ⟨n0, n1, k1, k2⟩ := h
  rename_i n b
  conv => whnf
  cases b
  all_goals
    ((repeat walk_at "zs"); (try conv => whnf))
    refine .mk n0 n1 (fun h => k1 h) fun h => ⟨rfl, fun a => ?_⟩
    ((repeat walk_at "zs"); (try conv => whnf))
    exact k2 h
theorem w_l_fraction (Cl : Cls) (Fr : Addr → Prop) (svs : List SV) (Ω : Om) (Φ : PhiE) (Ξ : XA) (h : c_l_fraction svs Ω Φ Ξ) :
    a_l_fraction Cl Fr { nx := fun _ Ω => Φ (.d .none) Ω, rt := Φ } (startR N_l_fraction svs) Ω := by
  obtain ⟨hB, k⟩ := h
  rename_i x L R
  conv => whnf
  refine .mk hB (by omega) (bel (by omega) (by omega)) fun r1 Ω r10 r11 hB => ?_
  conv => whnf
  refine .mk hB (by omega) (bel (by omega) (by omega)) fun r2 Ω r20 r21 hB => ?_
  conv => whnf
  refine .mk hB (by omega) (bel (by omega) (by omega)) fun r3 Ω r30 r31 hB => ?_
  ((repeat walk_at "zs"); (try conv => whnf))
  refine .mk hB (by simp) (by simp) fun d hd Ω hB => ?_
  obtain ⟨y, rfl, hy⟩ : ∃ y : Int, d = .int y ∧ (1≤y∧y≤100) := by
    repeat (rcases List.mem_cons.mp hd with rfl | hd; (exact ⟨_, rfl, by omega⟩))
    exact absurd hd List.not_mem_nil
  conv => whnf
  refine .mk hB (by omega) (bel (by omega) (by omega)) fun r5 Ω r50 r51 hB => ?_
  conv => whnf
  refine .mk hB (by omega) (bel (by omega) (by omega)) fun r6 Ω r60 r61 hB => ?_
  ((repeat walk_at "zs"); (try conv => whnf))
  refine .mk hB (by simp) (by simp) fun d hd Ω hB => ?_
  obtain ⟨X, rfl, hX⟩ : ∃ X : Int, d = .int X ∧ (1 ≤ X ∧ X ≤ y) := by
    simp only [List.mem_cons, List.not_mem_nil, or_false] at hd
    rcases hd with rfl | rfl | rfl | rfl | rfl
    · exact ⟨_, rfl, by omega⟩
    · exact ⟨_, rfl, by omega⟩
    · exact ⟨_, rfl, by omega⟩
    · exact ⟨_, rfl, by omega⟩
    · refine ⟨_, rfl, ?_⟩
      split <;> omega
  ((repeat walk_at "zs"); (try conv => whnf))
  exact k _ _ _ ⟨by omega, by omega, by omega, by omega⟩ hB
end
section
local macro_rules | `(tactic| walk_at "z1") => `(tactic| ((try dsimp only); first | done | exact True.intro | rfl | omega | exact Nat.le_of_ble_eq_true rfl | (exact ⟨by omega, by omega⟩) | (exact cmul (by omega) (by omega) (by omega) (by omega)) | (exact cdiv (by omega) (by omega)) | (exact Or.inl ⟨by omega, by omega⟩) | (exact Or.inr ⟨by omega, by omega⟩) | decide | assumption | (simp only [List.length_map, List.length_range, List.length_append, List.length_cons, List.length_nil, List.length_replicate, len_repD]; omega)))
local macro_rules | `(tactic| walk_at "zs") => `(tactic| ((conv => whnf); first | with_reducible refine br_T ?_ | with_reducible refine br_F ?_ | with_reducible refine br_d1 rfl ?_ | with_reducible refine br_n ?_ | ((with_reducible refine br_d1 ?_ ?_); (focus omega)) | ((with_reducible refine br_d0 ?_ ?_); (focus omega)) | ((fail_if_success with_reducible refine br_d ?_ ?_); refine br_T ?_) | ((fail_if_success with_reducible refine br_d ?_ ?_); refine br_F ?_) | refine And.intro (by walk_at "z1") ?_ | refine ⟨⟨_, _, .here, trivial⟩, ?_⟩ | refine ⟨_, _, .here, ?_⟩ | refine ⟨_, true, rfl, rfl, ?_⟩ | refine ⟨_, false, rfl, rfl, ?_⟩ | refine ⟨_, (by rfl : atI _ _ = some _), ?_⟩ | refine ⟨_, (by assumption : atI _ _ = some _), ?_⟩))
theorem fl_isD (is : List Int) : (isD is).all flD = true := by
  induction is with
  | nil => rfl
  | cons a r ih => show (flD (.int a) && (isD r).all flD) = true; rw [ih]; rfl
theorem any_isD (is : List Int) (z : Int) : ((isD is).any fun e => eqD e (.int z)) = decide (z ∈ is) := by
  induction is with
  | nil => simp [isD]
  | cons a r ih =>
    show (eqD (.int a) (.int z) || ((isD r).any fun e => eqD e (.int z))) = _
    rw [ih]
    have e : eqD (.int a) (.int z) = (a == z) := rfl
    rw [e]
    by_cases h : a = z
    · subst h; simp
    · have h' : ¬ z = a := fun q => h q.symm
      by_cases g : z ∈ r <;> simp [h, h', g]
theorem lc_subI {is : List Int} {Kp : Om → Prop} {Ω1 : Om} {turn : SV → Om → (SV → Om → Prop) → (Om → Prop) → Prop} {m : Mode} {Φ : PhiE} (Q : Int → Prop) (J : Om → Prop) (hl : is.length ≤ 1000000) (j0 : J Ω1) (kp : ∀ Ω, J Ω → Kp Ω)
    (t : ∀ d Ω (Y : SV → Om → Prop) (N : Om → Prop), d ∈ is → J Ω → (Q d → ∀ Ω', J Ω' → Y (I d) Ω') → (∀ Ω', J Ω' → N Ω') → turn (I d) Ω Y N)
    (fin : ∀ l Ω, l.length ≤ is.length → (∀ e ∈ l, e ∈ is ∧ Q e) → J Ω → newL m (isD l) Ω Φ) : LcS m ((isD is).map SV.d) Kp Ω1 turn Φ := by
  refine ⟨by rw [List.length_map, len_isD]; exact hl, fun i acc Ω => ∃ l : List Int, acc = (isD l).map SV.d ∧ l.length ≤ i ∧ (∀ e ∈ l, e ∈ is ∧ Q e) ∧ J Ω, ⟨[], rfl, Nat.zero_le _, by simp, j0⟩, fun i acc Ω ⟨l, h1, h2, h3, h4⟩ => ⟨kp _ h4, by rw [h1, List.length_map, len_isD]; exact h2⟩, ?_, ?_⟩
  · rintro i x acc Ω e ⟨l, rfl, h2, h3, j⟩
    obtain ⟨d, h1, rfl⟩ := get_isD e
    have hd := List.mem_of_getElem? h1
    refine t d Ω _ _ hd j (fun hp Ω' j' => ⟨l ++ [d], by rw [← app_isD, List.map_append]; rfl, by rw [List.length_append]; exact Nat.succ_le_succ h2, fun e he => ?_, j'⟩) fun Ω' j' => ⟨l, rfl, Nat.le_succ_of_le h2, h3, j'⟩
    rcases List.mem_append.mp he with he | he
    · exact h3 e he
    · obtain rfl := List.mem_singleton.mp he
      exact ⟨hd, hp⟩
  · rintro acc Ω ⟨l, rfl, h2, h3, j⟩
    rw [List.length_map, len_isD] at h2
    exact newX_d (fin l Ω h2 h3 j)
def ints3 (l : List Int) : List PyData := l.map PyData.int
theorem filt_isD (is : List Int) (p : PyData → Bool) : (isD is).filter p = isD (is.filter fun i => p (.int i)) := by
  induction is with
  | nil => rfl
  | cons a r ih =>
    show (PyData.int a :: isD r).filter p = _
    rw [List.filter_cons, List.filter_cons, ih]
    split <;> rfl
def neI (a : Int) : PyData → Bool
  | .int i => !decide (i = a)
  | _ => false
theorem gen_is {s : AS} {D : _} {ρ : Rho} {Ω : Om} (h : s D ρ Ω) : s D ρ Ω := h
theorem w_l_put_apart (Cl : Cls) (Fr : Addr → Prop) (svs : List SV) (Ω : Om) (Φ : PhiE) (Ξ : XA) (h : c_l_put_apart svs Ω Φ Ξ) :
    a_l_put_apart Cl Fr { nx := fun _ Ω => Φ (.d .none) Ω, rt := Φ } (startR N_l_put_apart svs) Ω := by
  obtain ⟨hB, ap, ne, ln, m21, k⟩ := h
  rename_i x is s m L R
  have mx := mx_lo
  ((repeat walk_at "zs"); (try conv => whnf))
  refine ⟨fun j ρ Ω' => ∃ (js : List Int) (r4 r5 r6 r7 : Option SV), ρ = [some x, some (T (isD is)), some (I m), some (.d (.list (isD js))), r4, r5, r6, r7] ∧ Ap s js ∧ js ≠ [] ∧ Bag x L R Ω', ⟨is, _, _, _, _, rfl, ap, ne, hB⟩, fun _ _ _ _ => trivial, ?_, ?_⟩
  · clear ap ne ln hB
    rintro j y ρ Ω e ⟨js, r4, r5, r6, r7, rfl, ap, ne, hB⟩
    obtain ⟨rfl, lt⟩ := rgS_get e
    have n21 := ap.u.n
    have bgI : ∀ a ∈ js, 1 ≤ a ∧ Bg a ∧ Bg (a + 1) := fun a ha => by
      have := ap.u.i a ha
      exact ⟨this.1, bg_mx (by omega) this.2, bg_i (k := 541) (by omega) (Int.le_trans (Int.add_le_add_right (Int.le_trans this.2 mx_hi) 1) (by decide +kernel)) (by decide)⟩
    have fl := fl_isD js
    ((repeat walk_at "zs"); (try conv => whnf))
    refine lc_subI (is := js) (fun a => 1 < a ∧ a + 1 ∉ js ∧ a * (a + 1) ∉ js ∧ a * (a + 1) ≤ Mx) (fun Ω' => Bag x L R Ω') (by omega) hB (fun _ _ => trivial) (fun a Ω Y N ha hB y n => ?_) fun ms Ω lm hm hB => ?_
    · obtain ⟨b1, b2, b3⟩ := bgI a ha
      ((repeat walk_at "zs"); (try conv => whnf))
      refine br_d (fun a1 => ?_) fun a1 => ?_
      · ((repeat walk_at "zs"); (try conv => whnf))
        rw [any_isD]
        refine br_n (br_d (fun n1 => ?_) fun n1 => ?_)
        · ((repeat walk_at "zs"); (try conv => whnf))
          exact n _ hB
        · ((repeat walk_at "zs"); (try conv => whnf))
          refine ⟨bg_mul b2 b3, ?_⟩
          ((repeat walk_at "zs"); (try conv => whnf))
          rw [any_isD]
          refine br_n (br_d (fun n2 => ?_) fun n2 => ?_)
          · ((repeat walk_at "zs"); (try conv => whnf))
            exact n _ hB
          · ((repeat walk_at "zs"); (try conv => whnf))
            refine ⟨bg_mul b2 b3, ?_⟩
            ((repeat walk_at "zs"); (try conv => whnf))
            refine .mk ?_
            ((repeat walk_at "zs"); (try conv => whnf))
            refine br_d (fun le => ?_) fun le => ?_
            · ((repeat walk_at "zs"); (try conv => whnf))
              exact y ⟨a1, n1, n2, le⟩ _ hB
            · ((repeat walk_at "zs"); (try conv => whnf))
              exact n _ hB
      · ((repeat walk_at "zs"); (try conv => whnf))
        exact n _ hB
    ((repeat walk_at "zs"); (try conv => whnf))
    refine ⟨(shaped_isD _).2, shaped_nil, ?_⟩
    rw [eqv_nil]
    refine br_d (fun z => ?_) fun z => ?_
    · ((repeat walk_at "zs"); (try conv => whnf))
      exact k js _ ap ne hB
    ((repeat walk_at "zs"); (try conv => whnf))
    refine br_d (fun ge => ?_) fun lt2 => ?_
    · ((repeat walk_at "zs"); (try conv => whnf))
      exact k js _ ap ne hB
    have lj := len_isD js
    have n20 : js.length ≤ 20 := by omega
    ((repeat walk_at "zs"); (try conv => whnf))
    refine ⟨fun y Ω' => ∃ a, y = I a ∧ a ∈ ms ∧ Bag x L R Ω', ?_, ?_⟩
    · refine .mk hB (by decide) (bel (by decide) (by decide)) fun r Ω r0 r1 hB => ?_
      ((repeat walk_at "zs"); (try conv => whnf))
      refine br_d (fun q => ?_) fun q => ?_
      · ((repeat walk_at "zs"); (try conv => whnf))
        have e := List.getLast?_eq_some_getLast z
        refine ⟨_, last_isD e, ?_⟩
        exact ⟨_, rfl, List.getLast_mem z, hB⟩
      · ((repeat walk_at "zs"); (try conv => whnf))
        refine .mk hB (fun q => z (isD_inj (js := []) q)) (by rw [len_isD]; omega) fun d hd Ω hB => ?_
        obtain ⟨i, hi, rfl⟩ := List.mem_map.mp hd
        exact ⟨i, rfl, hi, hB⟩
    · rintro y Ω ⟨a, rfl, ha, hB⟩
      obtain ⟨aj, a1, n1, n2, le⟩ := hm a ha
      obtain ⟨b1, b2, b3⟩ := bgI a aj
      ((repeat walk_at "zs"); (try conv => whnf))
      refine lc_filter (ds := isD js) (neI a) (fun Ω' => Bag x L R Ω') (by omega) hB (fun _ _ => trivial) (fun d Ω Y N hd hB y n => ?_) fun Ω hB => ?_
      · obtain ⟨i, hi, rfl⟩ := List.mem_map.mp hd
        ((repeat walk_at "zs"); (try conv => whnf))
        refine br_d (fun q => ?_) fun q => ?_
        · ((repeat walk_at "zs"); (try conv => whnf))
          exact n (by show (!decide (i = a)) = false; rw [decide_eq_true q]; rfl) _ hB
        · ((repeat walk_at "zs"); (try conv => whnf))
          exact y (by show (!decide (i = a)) = true; rw [decide_eq_false q]; rfl) _ hB
      rw [filt_isD]
      ((repeat walk_at "zs"); (try conv => whnf))
      refine ⟨bg_mul b2 b3, ?_⟩
      ((repeat walk_at "zs"); (try conv => whnf))
      have fe : (js.filter fun i => neI a (.int i)) = js.filter fun i => !decide (i = a) := rfl
      rw [fe]
      have fl := List.length_filter_le (fun i => !decide (i = a)) js
      refine ⟨by rw [len_isD]; exact Nat.le_trans (Nat.add_le_add_right (Nat.le_trans fl n21) 2) (by decide), ?_⟩
      ((repeat walk_at "zs"); (try conv => whnf))
      refine ⟨js.filter (fun i => !decide (i = a)) ++ [a + 1, a * (a + 1)], trivial, (app_isD _ [a + 1, a * (a + 1)]), fun ns pe so => ?_⟩
      ((repeat walk_at "zs"); (try conv => whnf))
      obtain ⟨ap2, l2⟩ := ap.step n20 aj a1 n1 n2 le pe so
      exact ⟨ns, _, _, _, _, rfl, ap2, fun q => by rw [q] at l2; simp at l2, hB⟩
  · rintro ρ Ω ⟨js, r4, r5, r6, r7, rfl, ap, ne, hB⟩
    ((repeat walk_at "zs"); (try conv => whnf))
    exact k js _ ap ne hB
theorem w_l_by_divisors (Cl : Cls) (Fr : Addr → Prop) (svs : List SV) (Ω : Om) (Φ : PhiE) (Ξ : XA) (h : c_l_by_divisors svs Ω Φ Ξ) :
    a_l_by_divisors Cl Fr { nx := fun _ Ω => Φ (.d .none) Ω, rt := Φ } (startR N_l_by_divisors svs) Ω := by
  obtain ⟨hB, k⟩ := h
  rename_i x L R
  have mx := mx_lo
  conv => whnf
  refine .mk hB (by omega) (bel (by omega) (by omega)) fun r1 Ω r10 r11 hB => ?_
  ((repeat walk_at "zs"); (try conv => whnf))
  refine .mk hB (by simp) (by simp) fun d hd Ω hB => ?_
  obtain ⟨y, rfl, hy⟩ : ∃ y : Int, d = .int y ∧ (1≤y∧y≤100) := by
    repeat (rcases List.mem_cons.mp hd with rfl | hd; (exact ⟨_, rfl, by omega⟩))
    exact absurd hd List.not_mem_nil
  ((repeat walk_at "zs"); (try conv => whnf))
  intro a fa
  ((repeat walk_at "zs"); (try conv => whnf))
  refine ⟨fun j ρ Ω' => ∃ (left : Int) (is : List Int) (r4 : Option SV), ρ = [some x, some (I y), some (I left), some (.r (.ref a)), r4] ∧ Dv y left j is ∧ (j = y.toNat → is ≠ []) ∧ Bag x ((a, .lst (isD is)) :: L) R Ω', ⟨y, [], _, rfl, ⟨List.nil_sublist _, by omega, by omega, by simp [vl], fun _ => rfl⟩, fun z => by omega, hB.push _⟩, fun _ _ _ _ => trivial, ?_, ?_⟩
  · clear hB
    rintro j w ρ Ω e ⟨left, is, r4, rfl, dv, -, hB⟩
    obtain ⟨rfl, lt⟩ := rgB_get e
    have d0 : 0 < y + (j : Int) * -1 := by omega
    generalize hd : y + (j : Int) * -1 = d at *
    have au := dv.au (by omega) (by omega) (by omega)
    have il := au.n
    have li := len_isD is
    have nlast : j + 1 = y.toNat → d = 1 := fun q => by omega
    obtain ⟨Ω2, rfl, hC⟩ := hB.pop
    clear hB
    have put : ∀ Ω3, d ≤ left → y % d = 0 → Bag x L R Ω3 → ((fun j ρ Ω' => ∃ (left : Int) (is : List Int) (r4 : Option SV), ρ = [some x, some (I y), some (I left), some (.r (.ref a)), r4] ∧ Dv y left j is ∧ (j = y.toNat → is ≠ []) ∧ Bag x ((a, .lst (isD is)) :: L) R Ω') : Nat → Rho → Om → Prop) (j + 1) [some x, some (I y), some (I (left - d)), some (.r (.ref a)), some (I d)] ((a, .lst (isD is ++ [.int (y / d)])) :: Ω3) := by
      intro Ω3 le m hC
      refine ⟨_, is ++ [y / d], _, rfl, dv.put hd.symm d0 m le, fun _ q => by simp at q, ?_⟩
      rw [← app_isD]
      exact hC.push _
    have skip : ∀ Ω3, (d = 1 → is ≠ []) → Bag x L R Ω3 → ((fun j ρ Ω' => ∃ (left : Int) (is : List Int) (r4 : Option SV), ρ = [some x, some (I y), some (I left), some (.r (.ref a)), r4] ∧ Dv y left j is ∧ (j = y.toNat → is ≠ []) ∧ Bag x ((a, .lst (isD is)) :: L) R Ω') : Nat → Rho → Om → Prop) (j + 1) [some x, some (I y), some (I left), some (.r (.ref a)), some (I d)] ((a, .lst (isD is)) :: Ω3) :=
      fun Ω3 q hC => ⟨_, _, _, rfl, dv.skip, fun z => q (nlast z), hC.push _⟩
    have m1 : d = 1 → y % d = 0 := fun q => by rw [q]; omega
    have l1 : is = [] → left = y := dv.e
    have sz : is.length < sizeLine := Nat.lt_of_le_of_lt il (by decide)
    have cd : CDivW y d := cdiv d0 (by omega)
    ((repeat walk_at "zs"); (try conv => whnf))
    refine br_d (fun m => ?_) fun m => ?_
    · ((repeat walk_at "zs"); (try conv => whnf))
      refine br_d (fun le => ?_) fun le => ?_
      · ((repeat walk_at "zs"); (try conv => whnf))
        refine .mk (hC.push _) (by decide) (bel (by decide) (by decide)) fun r Ω r0 r1 hB => ?_
        obtain ⟨Ω2, rfl, hC⟩ := hB.pop
        clear hB
        ((repeat walk_at "zs"); (try conv => whnf))
        refine br_d (fun gt => ?_) fun gt => ?_
        · ((repeat walk_at "zs"); (try conv => whnf))
          exact put _ le m hC
        · ((repeat walk_at "zs"); (try conv => whnf))
          refine br_d (fun q1 => ?_) fun q1 => ?_
          · ((repeat walk_at "zs"); (try conv => whnf))
            refine ⟨(shaped_isD _).2, shaped_nil, ?_⟩
            rw [eqv_nil]
            refine br_d (fun z => ?_) fun z => ?_
            · ((repeat walk_at "zs"); (try conv => whnf))
              exact put _ le m hC
            · ((repeat walk_at "zs"); (try conv => whnf))
              exact skip _ (fun _ => z) hC
          · ((repeat walk_at "zs"); (try conv => whnf))
            exact skip _ (fun q => absurd q q1) hC
      · ((repeat walk_at "zs"); (try conv => whnf))
        exact skip _ (fun q z => by have := l1 z; omega) hC
    · ((repeat walk_at "zs"); (try conv => whnf))
      exact skip _ (fun q => absurd (m1 q) m) hC
  · clear hB
    rintro ρ Ω ⟨left, is, r4, rfl, dv, ne, hB⟩
    rw [rgB_len] at dv ne
    have ne := ne (by omega)
    have au := dv.au (by omega) (by omega) (by omega)
    have fx := dv.fx (by omega) (by omega) (by omega) ne
    obtain ⟨Ω2, rfl, hC⟩ := hB.pop
    ((repeat walk_at "zs"); (try conv => whnf))
    exact ⟨_, .cons _ (.refl _), k _ _ _ _ fx.1 au ne fx.2 hC⟩
theorem set_last (js : List Int) (z w : Int) : (isD (js ++ [z])).set js.length (.int w) = isD (js ++ [w]) := by
  induction js with
  | nil => rfl
  | cons a r ih => exact congrArg (PyData.int a :: ·) ih
theorem ix_end {n : Nat} (h : 0 < n) : ixN n (-1) = some (n - 1) := by
  unfold ixN
  rw [if_neg (by decide), if_pos (by omega)]
  congr 1
  omega
theorem w_l_own_units (Cl : Cls) (Fr : Addr → Prop) (svs : List SV) (Ω : Om) (Φ : PhiE) (Ξ : XA) (h : c_l_own_units svs Ω Φ Ξ) :
    a_l_own_units Cl Fr { nx := fun _ Ω => Φ (.d .none) Ω, rt := Φ } (startR N_l_own_units svs) Ω := by
  obtain ⟨hB, k⟩ := h
  rename_i x L R
  have mx := mx_lo
  conv => whnf
  refine .mk hB (by omega) (bel (by omega) (by omega)) fun r1 Ω r10 r11 hB => ?_
  ((repeat walk_at "zs"); (try conv => whnf))
  refine .mk hB (by simp) (by simp) fun d hd Ω hB => ?_
  obtain ⟨many, rfl, hmany⟩ : ∃ many : Int, d = .int many ∧ (0≤many∧many≤20) := by
    repeat (rcases List.mem_cons.mp hd with rfl | hd; (exact ⟨_, rfl, by omega⟩))
    exact absurd hd List.not_mem_nil
  ((repeat walk_at "zs"); (try conv => whnf))
  refine .mk ?_
  ((repeat walk_at "zs"); (try conv => whnf))
  refine .mk ?_
  ((repeat walk_at "zs"); (try conv => whnf))
  have t6 : (10 : Int) ^ Int.toNat 6 = 10 ^ 6 := by decide +kernel
  have t40 : (10 : Int) ^ Int.toNat 40 = 10 ^ 40 := by decide +kernel
  dsimp only
  rw [t6, t40]
  refine .mk hB (by simp) (by simp) fun d hd Ω hB => ?_
  obtain ⟨top, rfl, htop⟩ : ∃ top : Int, d = .int top ∧ (60 ≤ top ∧ top ≤ Mx) := by
    simp only [List.mem_cons, List.not_mem_nil, or_false] at hd
    rcases hd with rfl | rfl | rfl | rfl | rfl | rfl
    all_goals exact ⟨_, rfl, by omega⟩
  ((repeat walk_at "zs"); (try conv => whnf))
  intro a fa
  ((repeat walk_at "zs"); (try conv => whnf))
  refine ⟨fun j ρ Ω' => ∃ (is : List Int) (last : Int) (r5 : Option SV), ρ = [some x, some (I many), some (I top), some (.r (.ref a)), some (I last), r5] ∧ is.length = j ∧ Asc is ∧ (∀ z ∈ is, 1 ≤ z ∧ z ≤ last) ∧ 0 ≤ last ∧ last ≤ (j : Int) * (top / many) ∧ Bag x ((a, .lst (isD is)) :: L) R Ω', ⟨[], 0, _, rfl, rfl, List.Pairwise.nil, by simp, by decide, by simp, hB.push _⟩, fun _ _ _ _ => trivial, ?_, ?_⟩
  · clear hB
    rintro j w ρ Ω e ⟨is, last, r5, rfl, il, asc, mem, l0, l1, hB⟩
    obtain ⟨rfl, lt⟩ := rgS_get e
    have q1 : 1 ≤ top / many := Int.le_ediv_of_mul_le (by omega) (by omega)
    have q2 : top / many ≤ Mx := Int.le_trans (Int.ediv_le_self _ (by omega)) htop.2
    have cd : CDivW top many := cdiv (by omega) (by omega)
    ((repeat walk_at "zs"); (try conv => whnf))
    refine .mk hB q1 q2 fun r Ω r0 r1 hB => ?_
    obtain ⟨Ω2, rfl, hC⟩ := hB.pop
    clear hB
    have sz : (isD is).length < sizeLine := by rw [len_isD]; exact Nat.lt_of_le_of_lt (by omega : is.length ≤ 20) (by decide)
    ((repeat walk_at "zs"); (try conv => whnf))
    refine ⟨is ++ [last + 1 + r], last + 1 + r, _, rfl, by rw [List.length_append, il]; rfl, ?_, ?_, by omega, ?_, ?_⟩
    · refine List.pairwise_append.mpr ⟨asc, List.pairwise_singleton .., fun z hz y hy => ?_⟩
      obtain rfl := List.mem_singleton.mp hy
      have := mem z hz
      omega
    · intro z hz
      rcases List.mem_append.mp hz with hz | hz
      · have := mem z hz
        omega
      · obtain rfl := List.mem_singleton.mp hz
        omega
    · have e : ((j + 1 : Nat) : Int) * (top / many) = (j : Int) * (top / many) + top / many := by
        rw [show ((j + 1 : Nat) : Int) = (j : Int) + 1 by omega, Int.add_mul, Int.one_mul]
      rw [e]
      omega
    · rw [← app_isD]
      exact hC.push _
  · clear hB
    rintro ρ Ω ⟨is, last, r5, rfl, il, asc, mem, l0, l1, hB⟩
    rw [rgS_len] at il l1
    obtain ⟨Ω2, rfl, hC⟩ := hB.pop
    clear hB
    have lm : last ≤ Mx := by
      rcases Int.lt_or_eq_of_le hmany.1 with z | z
      · have : ((many.toNat : Nat) : Int) = many := by omega
        rw [show (many.toNat : Int) = many by omega] at l1
        have := Int.mul_ediv_self_le (x := top) (k := many) (by omega)
        omega
      · rw [show (many.toNat : Int) = 0 by omega, Int.zero_mul] at l1
        omega
    have au : Au is := ⟨⟨by omega, fun z hz => by have := mem z hz; omega⟩, by omega, asc⟩
    ((repeat walk_at "zs"); (try conv => whnf))
    refine ⟨(shaped_isD _).2, shaped_nil, ?_⟩
    rw [eqv_nil]
    refine br_n (br_d (fun z => ?_) fun z => ?_)
    · ((repeat walk_at "zs"); (try conv => whnf))
      exact ⟨_, .cons _ (.refl _), k _ _ au hC⟩
    · ((repeat walk_at "zs"); (try conv => whnf))
      refine .mk (hC.push _) (by decide) (bel (by decide) (by decide)) fun r Ω r0 r1 hB => ?_
      obtain ⟨Ω3, rfl, hC⟩ := hB.pop
      clear hB
      ((repeat walk_at "zs"); (try conv => whnf))
      refine br_d (fun q => ?_) fun q => ?_
      · ((repeat walk_at "zs"); (try conv => whnf))
        have pos := List.length_pos_iff.mpr z
        refine ⟨_, by rw [len_isD]; exact ix_end pos, ?_⟩
        obtain ⟨js, w, rfl⟩ : ∃ js w, is = js ++ [w] := ⟨is.dropLast, is.getLast z, (List.dropLast_concat_getLast z).symm⟩
        rw [show (js ++ [w]).length - 1 = js.length by simp, set_last]
        have au2 : Au (js ++ [Mx]) := by
          obtain ⟨p1, p2, p3⟩ := List.pairwise_append.mp asc
          have wm := mem w (by simp)
          have ln := au.n
          rw [List.length_append] at ln
          refine ⟨⟨by rw [List.length_append]; exact Nat.le_succ_of_le ln, fun i hi => ?_⟩, by rw [List.length_append]; exact ln, ?_⟩
          · rcases List.mem_append.mp hi with hi | hi
            · exact au.u.i i (by simp [hi])
            · obtain rfl := List.mem_singleton.mp hi
              omega
          · refine List.pairwise_append.mpr ⟨p1, List.pairwise_singleton .., fun i hi y hy => ?_⟩
            obtain rfl := List.mem_singleton.mp hy
            have := p3 i hi w (by simp)
            omega
        ((repeat walk_at "zs"); (try conv => whnf))
        exact ⟨_, .cons _ (.refl _), k _ _ au2 hC⟩
      · ((repeat walk_at "zs"); (try conv => whnf))
        exact ⟨_, .cons _ (.refl _), k _ _ au hC⟩
end
section
local macro_rules | `(tactic| walk_at "z1") => `(tactic| ((try dsimp only); first | done | exact True.intro | rfl | omega | exact Nat.le_of_ble_eq_true rfl | (exact ⟨by omega, by omega⟩) | (exact cmul (by omega) (by omega) (by omega) (by omega)) | (exact cdiv (by omega) (by omega)) | (exact Or.inl ⟨by omega, by omega⟩) | (exact Or.inr ⟨by omega, by omega⟩) | decide | assumption | (simp only [List.length_map, List.length_range, List.length_append, List.length_cons, List.length_nil, List.length_replicate, len_repD]; omega)))
local macro_rules | `(tactic| walk_at "zs") => `(tactic| ((conv => whnf); first | with_reducible refine br_T ?_ | with_reducible refine br_F ?_ | with_reducible refine br_d1 rfl ?_ | with_reducible refine br_n ?_ | ((with_reducible refine br_d1 ?_ ?_); (focus omega)) | ((with_reducible refine br_d0 ?_ ?_); (focus omega)) | ((fail_if_success with_reducible refine br_d ?_ ?_); refine br_T ?_) | ((fail_if_success with_reducible refine br_d ?_ ?_); refine br_F ?_) | refine And.intro (by walk_at "z1") ?_ | refine ⟨⟨_, _, .here, trivial⟩, ?_⟩ | refine ⟨_, _, .here, ?_⟩ | refine ⟨_, true, rfl, rfl, ?_⟩ | refine ⟨_, false, rfl, rfl, ?_⟩ | refine ⟨_, (by rfl : atI _ _ = some _), ?_⟩ | refine ⟨_, (by assumption : atI _ _ = some _), ?_⟩))
theorem eqv_tt : PyData.eqv (.list [.bool true]) (.list [.bool true]) = true := by decide +kernel
theorem shaped_tt : SeqAt.shaped (.list [.bool true]) = true := by decide +kernel
theorem lv_split {n : Int} (h : 1 < n) : lv [n + 1, n * (n + 1)] = least 1 n := by
  rw [lv_apart (r := []) (by omega) (by simp)]
  unfold lv
  simp [vl]
theorem lv_one {n : Int} (h : 1 ≤ n) : least 1 n = (1, n) := least_self (by decide) (by omega) (Nat.gcd_one_left _)
theorem w_l_are_splits_right (Cl : Cls) (Fr : Addr → Prop) (svs : List SV) (Ω : Om) (Φ : PhiE) (Ξ : XA) (h : c_l_are_splits_right svs Ω Φ Ξ) :
    a_l_are_splits_right Cl Fr { nx := fun _ Ω => Φ (.d .none) Ω, rt := Φ } (startR N_l_are_splits_right svs) Ω := by
  obtain ⟨hB, k⟩ := h
  rename_i x L R
  have mx := mx_lo
  ((repeat walk_at "zs"); (try conv => whnf))
  refine .mk hB (by omega) (bel (by omega) (by omega)) fun r1 Ω r10 r11 hB => ?_
  ((repeat walk_at "zs"); (try conv => whnf))
  refine .mk hB (by omega) (bel (by omega) (by omega)) fun r2 Ω r20 r21 hB => ?_
  ((repeat walk_at "zs"); (try conv => whnf))
  refine ⟨fun j ρ Ω' => ∃ (r1 r2 : Option SV), ρ = [some x, r1, r2] ∧ Bag x L R Ω', ⟨_, _, rfl, hB⟩, fun _ _ _ _ => trivial, ?_, ?_⟩
  · clear hB
    rintro j y ρ Ω e ⟨q1, q2, rfl, hB⟩
    obtain ⟨n, rfl, n0, n1⟩ : ∃ n : Int, y = I n ∧ 1 ≤ n ∧ n ≤ 1000 := by
      have := List.mem_of_getElem? e
      simp only [List.map_cons, List.map_nil, List.mem_cons, List.not_mem_nil, or_false] at this
      rcases this with rfl | rfl | rfl | rfl | rfl | rfl
      all_goals exact ⟨_, rfl, by omega, by omega⟩
    have nn : 1 ≤ n * (n + 1) := Int.mul_pos (by omega) (by omega)
    have nm : n * (n + 1) ≤ 1000 * 1001 := Int.mul_le_mul n1 (by omega) (by omega) (by decide)
    have cm : CMulX n (n + 1) := cmul (by omega) (by omega) (by omega) (by omega)
    ((repeat walk_at "zs"); (try conv => whnf))
    refine .mk hB (by decide) (bel (by decide) (by decide)) fun r Ω r0 r1 hB => ?_
    ((repeat walk_at "zs"); (try conv => whnf))
    by_cases z : n = 1
    · subst z
      refine .mk n0 n1 (fun q => absurd rfl q) fun _ => ?_
      ((repeat walk_at "zs"); (try conv => whnf))
      exact ⟨_, _, rfl, hB⟩
    · refine .mk n0 n1 (fun _ => ?_) fun q => absurd q z
      have gt : 1 < n := by omega
      have uv : Uv [n + 1, n * (n + 1)] := ⟨by simp, fun i hi => by
        simp only [List.mem_cons, List.not_mem_nil, or_false] at hi
        rcases hi with rfl | rfl <;> omega⟩
      have lvs := lv_split gt
      ((repeat walk_at "zs"); (try conv => whnf))
      refine .mk (like3_prd (n + 1, n * (n + 1))) ?_
      ((repeat walk_at "zs"); (try conv => whnf))
      refine c_units_sum.mk (is := [n + 1, n * (n + 1)]) uv ?_
      rw [lvs, lv_one n0]
      ((repeat walk_at "zs"); (try conv => whnf))
      refine .mk (like3_prd (1, n)) ?_
      ((repeat walk_at "zs"); (try conv => whnf))
      refine br_d (fun lt => ?_) fun ge => ?_
      · have a1 : n + 1 < n * (n + 1) := by
          have := Int.mul_lt_mul_of_pos_right gt (show 0 < n + 1 by omega)
          omega
        have au : Au [n + 1, n * (n + 1)] := ⟨uv, by simp, List.pairwise_cons.mpr ⟨by simpa using a1, List.pairwise_singleton ..⟩⟩
        have du := au.due 1 n
        rw [if_pos lvs] at du
        ((repeat walk_at "zs"); (try conv => whnf))
        refine c_units_error.mk (d := .tuple (isD [n + 1, n * (n + 1)])) ⟨n0, by omega, by decide, n0⟩ (by show (2 : Nat) ≤ 1000; decide) ?_
        rw [du]
        ((repeat walk_at "zs"); (try conv => whnf))
        refine .mk (like_none (n := 3)) ?_
        ((repeat walk_at "zs"); (try conv => whnf))
        exact ⟨_, _, rfl, hB⟩
      · ((repeat walk_at "zs"); (try conv => whnf))
        exact ⟨_, _, rfl, hB⟩
  · clear hB
    rintro ρ Ω ⟨q1, q2, rfl, hB⟩
    ((repeat walk_at "zs"); (try conv => whnf))
    exact k _ hB
theorem Vok.repr {d : PyData} (h : Vok d) : (d.hasDict = false ∨ hasList d = false) ∧ d.showable = true ∧ d.depth ≤ 60 ∧ d.shown.length ≤ sizeLine := by
  obtain ⟨b, r⟩ := h.rq
  exact r.repr (by decide) (by decide)
theorem w_l_judges (Cl : Cls) (Fr : Addr → Prop) (svs : List SV) (Ω : Om) (Φ : PhiE) (Ξ : XA) (h : c_l_judges svs Ω Φ Ξ) :
    a_l_judges Cl Fr { nx := fun _ Ω => Φ (.d .none) Ω, rt := Φ } (startR N_l_judges svs) Ω := by
  obtain ⟨hB, fx, ln, all, k⟩ := h
  rename_i x X Y l L R
  have mx := mx_lo
  ((repeat walk_at "zs"); (try conv => whnf))
  refine ⟨fun j ρ Ω' => ∃ r4 r5 r6 r7 r8 r9 r10 : Option SV, ρ = [some x, some (I X), some (I Y), some (.d (.list l)), r4, r5, r6, r7, r8, r9, r10] ∧ Bag x L R Ω', ⟨_, _, _, _, _, _, _, rfl, hB⟩, fun _ _ _ _ => trivial, ?_, ?_⟩
  · clear hB
    rintro j y ρ Ω e ⟨r4, r5, r6, r7, r8, r9, r10, rfl, hB⟩
    obtain ⟨d, hd, rfl⟩ := enD_get e
    obtain ⟨⟨v, t, rfl, ok, tr⟩⟩ := all d (List.mem_of_getElem? hd)
    obtain ⟨p1, p2, p3, p4⟩ := ok.repr
    ((repeat walk_at "zs"); (try conv => whnf))
    refine .mk ok.ln ?_
    by_cases sh : shp v = .none
    · obtain ⟨is, rfl, au, -, -⟩ := shp_none sh
      obtain rfl := tr is rfl au
      have du := au.due X Y
      have lp := lv_pos au.u.one
      have lb := au.u.lbg
      have fx' := fx
      obtain ⟨y0, y1, x0, x1⟩ := fx'
      have bX := bg_mx (a := X) (by omega) (by omega)
      have bY := bg_mx (a := Y) (by omega) (by omega)
      have lk : LikeOk 3 (due X Y (.tuple (isD is))) := like_due _ _ _
      have cr : (lv is = least X Y) = ((lv is).1 * Y = X * (lv is).2) := by
        refine propext ⟨fun q => ?_, fun q => ?_⟩
        · have := least_cancel (a := (lv is).1) (b := (lv is).2) (c := X) (d := Y) (by omega) (by omega) (by rw [least_self lp.1 (by omega) lp.2.2]; exact q)
          exact this
        · have := least_eq (a := (lv is).1) (b := (lv is).2) (c := X) (d := Y) lp.1 (by omega) (by omega) (by omega) q
          rw [least_self lp.1 (by omega) lp.2.2] at this
          exact this
      rw [sh]
      ((repeat walk_at "zs"); (try conv => whnf))
      refine ⟨bg_mul lb.1 bY, ?_⟩
      ((repeat walk_at "zs"); (try conv => whnf))
      refine ⟨bg_mul bX lb.2, ?_⟩
      ((repeat walk_at "zs"); (try conv => whnf))
      refine br_d (fun q => ?_) fun q => ?_
      · rw [if_pos (by rw [cr]; exact q)] at du
        ((repeat walk_at "zs"); (try conv => whnf))
        refine ⟨fun y Ω' => y = .d (due X Y (.tuple (isD is))) ∧ Bag x L R Ω', ?_, ?_⟩
        · ((repeat walk_at "zs"); (try conv => whnf))
          refine br_d (fun z => ?_) fun z => ?_
          · ((repeat walk_at "zs"); (try conv => whnf))
            refine .mk fx ok.ln ?_
            exact ⟨rfl, hB⟩
          · ((repeat walk_at "zs"); (try conv => whnf))
            refine .mk fx ok.ln ?_
            exact ⟨rfl, hB⟩
        clear hB
        rintro y Ω ⟨rfl, hB⟩
        rw [du] at lk ⊢
        ((repeat walk_at "zs"); (try conv => whnf))
        refine .mk lk ?_
        ((repeat walk_at "zs"); (try conv => whnf))
        refine ⟨fun y Ω' => y = .d (prd (lv is)) ∧ Bag x L R Ω', ?_, ?_⟩
        · ((repeat walk_at "zs"); (try conv => whnf))
          refine br_d (fun z => ?_) fun z => ?_
          · ((repeat walk_at "zs"); (try conv => whnf))
            refine .mk au.u ?_
            exact ⟨rfl, hB⟩
          · ((repeat walk_at "zs"); (try conv => whnf))
            refine .mk au.u ?_
            exact ⟨rfl, hB⟩
        clear hB
        rintro y Ω ⟨rfl, hB⟩
        ((repeat walk_at "zs"); (try conv => whnf))
        refine .mk (like3_prd (lv is)) ?_
        ((repeat walk_at "zs"); (try conv => whnf))
        exact ⟨_, _, _, _, _, _, _, rfl, hB⟩
      · rw [if_neg (by rw [cr]; exact q)] at du
        ((repeat walk_at "zs"); (try conv => whnf))
        refine ⟨fun y Ω' => y = .d (due X Y (.tuple (isD is))) ∧ Bag x L R Ω', ?_, ?_⟩
        · ((repeat walk_at "zs"); (try conv => whnf))
          refine br_d (fun z => ?_) fun z => ?_
          · ((repeat walk_at "zs"); (try conv => whnf))
            refine .mk fx ok.ln ?_
            exact ⟨rfl, hB⟩
          · ((repeat walk_at "zs"); (try conv => whnf))
            refine .mk fx ok.ln ?_
            exact ⟨rfl, hB⟩
        clear hB
        rintro y Ω ⟨rfl, hB⟩
        rw [du] at lk ⊢
        ((repeat walk_at "zs"); (try conv => whnf))
        refine .mk lk ?_
        ((repeat walk_at "zs"); (try conv => whnf))
        refine ⟨fun y Ω' => y = .d (prd (lv is)) ∧ Bag x L R Ω', ?_, ?_⟩
        · ((repeat walk_at "zs"); (try conv => whnf))
          refine br_d (fun z => ?_) fun z => ?_
          · ((repeat walk_at "zs"); (try conv => whnf))
            refine .mk au.u ?_
            exact ⟨rfl, hB⟩
          · ((repeat walk_at "zs"); (try conv => whnf))
            refine .mk au.u ?_
            exact ⟨rfl, hB⟩
        clear hB
        rintro y Ω ⟨rfl, hB⟩
        ((repeat walk_at "zs"); (try conv => whnf))
        refine .mk (like3_prd (lv is)) ?_
        ((repeat walk_at "zs"); (try conv => whnf))
        exact ⟨_, _, _, _, _, _, _, rfl, hB⟩
    · have du := due_shp (x := X) (y := Y) sh
      have lk : LikeOk 3 (shp v) := like_shp v
      have nn : isNon (.d (shp v)) = false := by
        cases e : shp v with
        | none => exact absurd e sh
        | _ => rfl
      ((repeat walk_at "zs"); (try conv => whnf))
      rw [nn]
      ((repeat walk_at "zs"); (try conv => whnf))
      refine ⟨fun y Ω' => y = .d (due X Y v) ∧ Bag x L R Ω', ?_, ?_⟩
      · ((repeat walk_at "zs"); (try conv => whnf))
        refine br_d (fun z => ?_) fun z => ?_
        · ((repeat walk_at "zs"); (try conv => whnf))
          refine .mk fx ok.ln ?_
          exact ⟨rfl, hB⟩
        · ((repeat walk_at "zs"); (try conv => whnf))
          refine .mk fx ok.ln ?_
          exact ⟨rfl, hB⟩
      clear hB
      rintro y Ω ⟨rfl, hB⟩
      rw [du]
      ((repeat walk_at "zs"); (try conv => whnf))
      refine .mk lk ?_
      ((repeat walk_at "zs"); (try conv => whnf))
      rw [nn]
      ((repeat walk_at "zs"); (try conv => whnf))
      exact ⟨_, _, _, _, _, _, _, rfl, hB⟩
  · clear hB
    rintro ρ Ω ⟨r4, r5, r6, r7, r8, r9, r10, rfl, hB⟩
    ((repeat walk_at "zs"); (try conv => whnf))
    exact k _ hB
end
section
local macro_rules | `(tactic| walk_at "z1") => `(tactic| ((try dsimp only); first | done | exact True.intro | rfl | omega | exact Nat.le_of_ble_eq_true rfl | (exact ⟨by omega, by omega⟩) | (exact cmul (by omega) (by omega) (by omega) (by omega)) | (exact cdiv (by omega) (by omega)) | (exact Or.inl ⟨by omega, by omega⟩) | (exact Or.inr ⟨by omega, by omega⟩) | decide | assumption | (simp only [List.length_map, List.length_range, List.length_append, List.length_cons, List.length_nil, List.length_replicate, len_repD]; omega)))
local macro_rules | `(tactic| walk_at "zs") => `(tactic| ((conv => whnf); first | with_reducible refine br_T ?_ | with_reducible refine br_F ?_ | with_reducible refine br_d1 rfl ?_ | with_reducible refine br_n ?_ | ((with_reducible refine br_d1 ?_ ?_); (focus omega)) | ((with_reducible refine br_d0 ?_ ?_); (focus omega)) | ((fail_if_success with_reducible refine br_d ?_ ?_); refine br_T ?_) | ((fail_if_success with_reducible refine br_d ?_ ?_); refine br_F ?_) | refine And.intro (by walk_at "z1") ?_ | refine ⟨⟨_, _, .here, trivial⟩, ?_⟩ | refine ⟨_, _, .here, ?_⟩ | refine ⟨_, true, rfl, rfl, ?_⟩ | refine ⟨_, false, rfl, rfl, ?_⟩ | refine ⟨_, (by rfl : atI _ _ = some _), ?_⟩ | refine ⟨_, (by assumption : atI _ _ = some _), ?_⟩))
theorem gen_cell {s : AS} {D : _} {ρ : Rho} {a : Addr} {l : List PyData} {Ω : Om} (P : List PyData → Prop) (hl : P l) (h : ∀ l, P l → s D ρ ((a, .lst l) :: Ω)) : s D ρ ((a, .lst l) :: Ω) := h l hl
structure Vl (n : Nat) (l : List PyData) : Prop where
  n : l.length ≤ n
  v : ∀ e ∈ l, Vc e
theorem Vl.app {n : Nat} {l : List PyData} {e : PyData} (h : Vl n l) (he : Vc e) : Vl (n + 1) (l ++ [e]) := ⟨by rw [List.length_append]; exact Nat.succ_le_succ h.n, fun d hd => (List.mem_append.mp hd).elim (h.v d) fun q => by obtain rfl := List.mem_singleton.mp q; exact he⟩
theorem Vl.mono {n m : Nat} {l : List PyData} (h : Vl n l) (hm : n ≤ m) : Vl m l := ⟨Nat.le_trans h.n hm, h.v⟩
theorem split_at {is : List Int} {j : Nat} {i : Int} (h : is[j]? = some i) : is = is.take j ++ i :: is.drop (j + 1) := by
  obtain ⟨lt, e⟩ := List.getElem?_eq_some_iff.mp h
  rw [← e, ← List.drop_eq_getElem_cons lt, List.take_append_drop]
theorem perm_at {is : List Int} {j : Nat} {i : Int} (h : is[j]? = some i) : is.Perm (i :: (is.take j ++ is.drop (j + 1))) := by
  have := split_at h
  exact (List.Perm.of_eq this).trans List.perm_middle
theorem w_l_spoilt (Cl : Cls) (Fr : Addr → Prop) (svs : List SV) (Ω : Om) (Φ : PhiE) (Ξ : XA) (h : c_l_spoilt svs Ω Φ Ξ) :
    a_l_spoilt Cl Fr { nx := fun _ Ω => Φ (.d .none) Ω, rt := Φ } (startR N_l_spoilt svs) Ω := by
  obtain ⟨hB, au, ne, rfl, k⟩ := h
  rename_i x is L R
  have mx := mx_lo
  have uv := au.u
  have un := au.n
  have tw : ∀ b, Tn b 21 (isD is) := fun b => tn_w uv
  have li := len_isD is
  have pos := List.length_pos_iff.mpr ne
  have s1 : (1000000 : Nat) ≤ sizeLine := by decide
  have gt : ∀ j : Nat, j < is.length → ∃ i, is[j]? = some i ∧ atI (isD is) (j : Int) = some (.int i) ∧ 1 ≤ i ∧ i ≤ Mx := fun j hj => by
    have e : is[j]? = some is[j] := List.getElem?_eq_getElem hj
    exact ⟨_, e, at_isD (by omega) (by simpa using e), uv.i _ (List.mem_of_getElem? e)⟩
  conv => whnf
  refine .mk hB (by omega) (bel (by omega) (by omega)) fun r1 Ω r10 r11 hB => ?_
  ((repeat walk_at "zs"); (try conv => whnf))
  refine ⟨fun y Ω' => ∃ j : Nat, y = I (j : Nat) ∧ j < is.length ∧ Bag x L R Ω', ?_, ?_⟩
  · ((repeat walk_at "zs"); (try conv => whnf))
    refine .mk hB (by omega) (bel (by omega) (by omega)) fun r2 Ω r20 r21 hB => ?_
    ((repeat walk_at "zs"); (try conv => whnf))
    refine br_d (fun z => ?_) fun z => ?_
    · ((repeat walk_at "zs"); (try conv => whnf))
      exact ⟨is.length - 1, by show (I _ : SV) = I ((is.length - 1 : Nat) : Int); rw [show ((is.length - 1 : Nat) : Int) = ((isD is).length : Int) - 1 by omega], by omega, hB⟩
    · ((repeat walk_at "zs"); (try conv => whnf))
      exact ⟨r1.toNat, by rw [Int.toNat_of_nonneg r10], by omega, hB⟩
  clear hB
  rintro y Ω' ⟨j, rfl, lj, hB⟩
  obtain ⟨i, hi, ei, i0, i1⟩ := gt j lj
  have lp := lv_pos uv.one
  have lb := uv.lbg
  have per := perm_at hi
  have spl := split_at hi
  obtain ⟨nn, lv2⟩ := lv_less uv.one per
  have uve : ∀ z ∈ is.take j ++ is.drop (j + 1), 1 ≤ z ∧ z ≤ Mx := fun z hz => uv.i z (per.mem_iff.mpr (List.mem_cons_of_mem _ hz))
  have b1 : Bg (-1) := bg_neg (a := 1) (bg_b9 (by decide) (b9_sm (by decide)))
  have b1' : Bg 1 := bg_b9 (by decide) (b9_sm (by decide))
  ((repeat walk_at "zs"); (try conv => whnf))
  refine c_l_add.mk (a := (lv is).1) (b := (lv is).2) (c := -1) (d := i) lp.2.1 i0 (Int.le_trans i1 mx_b9) lp.2.2 (Nat.gcd_one_left _) lb.1 lb.2 b1 nn ?_
  rw [lv2]
  have len1 : (is.take j ++ is.drop (j + 1)).length + 1 = is.length := by
    have := per.length_eq
    simp only [List.length_cons] at this
    exact this.symm
  have lpe := lv_pos fun z hz => (uve z hz).1
  have lbe := (Uv.mk (is := is.take j ++ is.drop (j + 1)) (by omega) uve).lbg
  ((repeat walk_at "zs"); (try conv => whnf))
  refine .mk hB (by decide) (bel (by decide) (by decide)) fun r5 Ω r50 r51 hB => ?_
  ((repeat walk_at "zs"); (try conv => whnf))
  refine .mk hB (by simp) (by simp) fun d hd Ω hB => ?_
  obtain ⟨v, rfl, v0, v1⟩ : ∃ v : Int, d = .int v ∧ 0 ≤ v ∧ v ≤ Mx + 1001 := by
    simp only [List.mem_cons, List.not_mem_nil, or_false] at hd
    rcases hd with rfl | rfl | rfl | rfl | rfl
    · exact ⟨_, rfl, by omega⟩
    · exact ⟨_, rfl, by omega⟩
    · exact ⟨_, rfl, by omega⟩
    · exact ⟨_, rfl, by omega⟩
    · refine ⟨_, rfl, ?_⟩
      split <;> omega
  have c1 := cutD_len (isD is) none (some (j : Int))
  have c2 := cutD_len (isD is) (some ((j : Int) + 1)) none
  have c3 := cutD_len (isD is) (some (j : Int)) none
  have ct1 : Z.cutD (isD is) none (some (j : Int)) = isD (is.take j) := by rw [cut_to_isD (by omega), Int.toNat_natCast]
  have ct2 : Z.cutD (isD is) (some ((j : Int) + 1)) none = isD (is.drop (j + 1)) := by rw [cut_from_isD (by omega), show ((j : Int) + 1).toNat = j + 1 by omega]
  have ct3 : Z.cutD (isD is) (some (j : Int)) none = isD (is.drop j) := by rw [cut_from_isD (by omega), Int.toNat_natCast]
  ((repeat walk_at "zs"); (try conv => whnf))
  refine .mk hB i0 i1 fun od b Ω ro no hB => ?_
  have ro2 : Rq 2 20100 b od := ro.mono (by decide) (by decide)
  have tc : ∀ b lo hi, Tn b 21 (Z.cutD (isD is) lo hi) := fun b lo hi => tn_cut (tw b)
  have ei1 : ∀ b, Rq 2 20100 b (.int i) := fun b => el_i (by omega) (by omega)
  have vs : Vok (.tuple (isD is)) := (tw true).vok (by decide)
  obtain ⟨l0, hl0⟩ : ∃ l0, l0 = [PyData.tuple [.tuple (isD is), prd (lv is)], .tuple [.tuple [], prd (0, 1)], .tuple [.tuple (Z.cutD (isD is) none (some (j : Int)) ++ Z.cutD (isD is) (some ((j : Int) + 1)) none), prd (lv (is.take j ++ is.drop (j + 1)))],
    .tuple [.tuple (Z.cutD (isD is) none (some (j : Int)) ++ [.int i] ++ Z.cutD (isD is) (some (j : Int)) none), prd (lv is)], .tuple [.tuple (Z.cutD (isD is) none (some (j : Int)) ++ [od] ++ Z.cutD (isD is) (some ((j : Int) + 1)) none), prd (lv is)], .tuple [.list (isD is), prd (lv is)]] := ⟨_, rfl⟩
  have v6 : Vl 6 l0 := by
    refine ⟨by rw [hl0]; simp, fun e he => ?_⟩
    rw [hl0] at he
    simp only [List.mem_cons, List.not_mem_nil, or_false] at he
    rcases he with rfl | rfl | rfl | rfl | rfl | rfl
    · exact .is vs rfl
    · exact Vc.is (js := []) ((tn_nil (b := true)).vok (by decide)) (by rw [lv_nil])
    · have ok := (tn_app (tc true none (some (j : Int))) (tc true (some ((j : Int) + 1)) none)).vok (by decide)
      rw [ct1, ct2, app_isD] at ok ⊢
      exact .is ok rfl
    · have ok := (tn_app (tn_app (tc true none (some (j : Int))) (tn_1 (ei1 true))) (tc true (some (j : Int)) none)).vok (by decide)
      refine .nv ok ?_
      rw [ct1, ct3]
      have e1 : isD (is.take j) ++ [PyData.int i] ++ isD (is.drop j) = isD (is.take j ++ [i] ++ i :: is.drop (j + 1)) := by
        have : is.drop j = i :: is.drop (j + 1) := by
          obtain ⟨lt, e⟩ := List.getElem?_eq_some_iff.mp hi
          rw [← e, ← List.drop_eq_getElem_cons lt]
        rw [this, ← app_isD, ← app_isD]
        rfl
      rw [e1]
      exact nv_asc na_dup
    · exact .nv ((tn_app (tn_app (tc b none (some (j : Int))) (tn_1 ro2)) (tc b (some ((j : Int) + 1)) none)).vok (by decide)) (nv_mem (e := od) (by simp) no)
    · exact .nv ⟨trivial, true, (rq_of (rep_lst (k := 0) (L := 2000) (n := 21) (fun d hd => by
        obtain ⟨z, hz, rfl⟩ := List.mem_map.mp hd
        have := uv.i z hz
        exact rep_int (mx_nat (by omega) (by omega))) (by omega))).mono (by decide) (by decide)⟩ (nv_not fun ds q => by cases q)
  have vch : Vc (.tuple [.tuple (Z.cutD (isD is) none (some (j : Int)) ++ [.int v] ++ Z.cutD (isD is) (some ((j : Int) + 1)) none), prd (if 1 ≤ v then lv ((is.take j ++ is.drop (j + 1)) ++ [v]) else lv is)]) := by
    have ok := (tn_app (tn_app (tc true none (some (j : Int))) (tn_1 (b := true) (d := .int v) (el_i (by omega) (by omega)))) (tc true (some ((j : Int) + 1)) none)).vok (by decide)
    by_cases h1 : 1 ≤ v
    · rw [if_pos h1]
      have e1 : isD (is.take j) ++ [PyData.int v] ++ isD (is.drop (j + 1)) = isD (is.take j ++ [v] ++ is.drop (j + 1)) := by
        rw [← app_isD, ← app_isD]
        rfl
      rw [ct1, ct2, e1] at ok ⊢
      refine .is ok ?_
      congr 1
      refine lv_perm ?_
      rw [List.append_assoc, List.append_assoc]
      exact List.Perm.append_left _ List.perm_append_comm
    · rw [if_neg h1]
      refine .nv ok (nv_mem (e := .int v) (by simp) ?_)
      show (decide (1 ≤ v) && decide (v ≤ Mx)) = false
      rw [decide_eq_false h1]; rfl
  ((repeat walk_at "zs"); (try conv => whnf))
  intro a fa
  ((repeat walk_at "zs"); (try conv => whnf))
  refine ⟨fun y Ω' => y = .d (prd (if 1 ≤ v then lv ((is.take j ++ is.drop (j + 1)) ++ [v]) else lv is)) ∧ Ω' = (a, .lst l0) :: Ω, ?_, ?_⟩
  · ((repeat walk_at "zs"); (try conv => whnf))
    refine br_d (fun z => ?_) fun z => ?_
    · ((repeat walk_at "zs"); (try conv => whnf))
      rw [if_neg (by omega)]
      exact ⟨rfl, by rw [hl0]; rfl⟩
    · ((repeat walk_at "zs"); (try conv => whnf))
      have z1 : 1 ≤ v := by omega
      have nn2 := Int.mul_nonneg lpe.1 (show 0 ≤ v by omega)
      have vB : v ≤ B9 := Int.le_trans (show v ≤ 2 * Mx by omega) (Int.le_trans (Int.mul_le_mul_of_nonneg_left mx_hi (by decide)) (Int.le_trans (by decide +kernel) (b9_le (k := 600) (by decide))))
      refine c_l_add.mk (a := (lv (is.take j ++ is.drop (j + 1))).1) (b := (lv (is.take j ++ is.drop (j + 1))).2) (c := 1) (d := v) lpe.2.1 z1 vB lpe.2.2 (Nat.gcd_one_left _) lbe.1 lbe.2 b1' (by omega) ?_
      rw [lv_snoc2 (fun z hz => (uve z hz).1) z1, if_pos z1]
      exact ⟨rfl, by rw [hl0]; rfl⟩
  rintro y Ω' ⟨rfl, rfl⟩
  have l6 := v6.n
  clear hl0
  have v7 := v6.app vch
  ((repeat walk_at "zs"); (try conv => whnf))
  have nn3 := Int.mul_nonneg lp.1 (show 0 ≤ Mx by omega)
  refine .mk ?_
  ((repeat walk_at "zs"); (try conv => whnf))
  refine .mk ?_
  ((repeat walk_at "zs"); (try conv => whnf))
  refine c_l_add.mk (a := (lv is).1) (b := (lv is).2) (c := 1) (d := Mx) lp.2.1 (by omega) mx_b9 lp.2.2 (Nat.gcd_one_left _) lb.1 lb.2 b1' (by omega) ?_
  rw [lv_snoc2 uv.one (by omega)]
  ((repeat walk_at "zs"); (try conv => whnf))
  refine .mk ?_
  ((repeat walk_at "zs"); (try conv => whnf))
  refine ⟨fun ρ' Ω' => ∃ (l : List PyData) (r10 r11 r12 : Option SV) (CH OD : SV), ρ' = [some x, some (T (isD is)), some (.d (prd (lv is))), some (I ((isD is).length : Nat)), some (I (j : Nat)), some (.d (prd (lv (is.take j ++ is.drop (j + 1))))), some (I v), some CH, some OD, some (.r (.ref a)), r10, r11, r12] ∧ Vl 20 l ∧ Bag x ((a, .lst l) :: L) R Ω', ?_, ?_⟩
  · refine gen_cell (fun l => Vl 10 l) (((v7.app ?_).app ?_).app ?_) ?_
    · have ok : Vok (.tuple (isD is ++ [.int Mx])) := (tn_app (tw true) (tn_1 (b := true) (d := .int Mx) (el_i (by omega) (by omega)))).vok (by decide)
      have e1 : isD is ++ [PyData.int Mx] = isD (is ++ [Mx]) := app_isD is [Mx]
      rw [e1] at ok ⊢
      exact .is ok rfl
    · refine .nv ((tn_app (tw true) (tn_1 (b := true) (d := .int (Mx + 1)) (el_i (by omega) (by omega)))).vok (by decide)) (nv_mem (e := .int (Mx + 1)) (by simp) ?_)
      show (decide (1 ≤ Mx + 1) && decide (Mx + 1 ≤ Mx)) = false
      rw [decide_eq_false (p := Mx + 1 ≤ Mx) (by omega), Bool.and_false]
    · exact .nv ((tn_app (tn_app (tc true none (some (j : Int))) (tn_1 el_b)) (tc true (some ((j : Int) + 1)) none)).vok (by decide)) (nv_mem (e := .bool true) (by simp) rfl)
    clear v6 v7 l6
    rintro l vl
    have ll := vl.n
    clear nn nn3 lv2 per spl uve b1 b1' lpe lbe lp lb vch len1 vs hi ei i0 i1 v1
    conv => whnf
    refine br_d (fun m2 => ?_) fun m2 => ?_
    · ((repeat walk_at "zs"); (try conv => whnf))
      have m2 : 1 < is.length := by omega
      refine ⟨fun y Ω' => ∃ q : Nat, y = I (q : Nat) ∧ q + 1 < is.length ∧ Bag x ((a, .lst l) :: L) R Ω', ?_, ?_⟩
      · ((repeat walk_at "zs"); (try conv => whnf))
        refine .mk (hB.push _) (by decide) (bel (by decide) (by decide)) fun r3 Ω r30 r31 hB => ?_
        ((repeat walk_at "zs"); (try conv => whnf))
        refine br_d (fun z => ?_) fun z => ?_
        · ((repeat walk_at "zs"); (try conv => whnf))
          exact ⟨is.length - 2, by show (I _ : SV) = I ((is.length - 2 : Nat) : Int); rw [show ((is.length - 2 : Nat) : Int) = ((isD is).length : Int) - 2 by omega], by omega, hB⟩
        · ((repeat walk_at "zs"); (try conv => whnf))
          refine .mk hB (by omega) (bel (by omega) (by omega)) fun r4 Ω r40 r41 hB => ?_
          exact ⟨r4.toNat, by rw [Int.toNat_of_nonneg r40], by omega, hB⟩
      · clear hB
        rintro y Ω' ⟨q, rfl, lq, hB⟩
        obtain ⟨Ω3, rfl, hC⟩ := hB.pop
        obtain ⟨b2, hb2, eb, b20, b21⟩ := gt (q + 1) lq
        obtain ⟨b3, hb3, ec, b30, b31⟩ := gt q (by omega)
        have eb : atI (isD is) ((q : Int) + 1) = some (.int b2) := eb
        obtain ⟨pv, hpv, ep, p0, p1⟩ := gt (is.length - 2) (by omega)
        have ep : atI (isD is) (((isD is).length : Int) - 2) = some (.int pv) := by
          rw [show ((isD is).length : Int) - 2 = ((is.length - 2 : Nat) : Int) by omega]
          exact ep
        have lt32 : b3 < b2 := by
          obtain ⟨x1, y1⟩ := List.getElem?_eq_some_iff.mp hb2
          obtain ⟨x2, y2⟩ := List.getElem?_eq_some_iff.mp hb3
          have := List.pairwise_iff_getElem.mp au.a q (q + 1) x2 x1 (by omega)
          omega
        have k1 := cutD_len (isD is) none (some (q : Int))
        have k2 := cutD_len (isD is) (some ((q : Int) + 2)) none
        have kt1 : Z.cutD (isD is) none (some (q : Int)) = isD (is.take q) := by rw [cut_to_isD (by omega), Int.toNat_natCast]
        have kt2 : Z.cutD (isD is) (some ((q : Int) + 2)) none = isD (is.drop (q + 2)) := by rw [cut_from_isD (by omega), show ((q : Int) + 2).toNat = q + 2 by omega]
        have kt3 : Z.cutD (isD is) none (some (((isD is).length : Int) - 1)) = isD (is.take (is.length - 1)) := by rw [cut_to_isD (by omega), show (((isD is).length : Int) - 1).toNat = is.length - 1 by omega]
        have et : Z.cutD (isD is) none (some (q : Int)) ++ [PyData.int b2, PyData.int b3] ++ Z.cutD (isD is) (some ((q : Int) + 2)) none = isD (is.take q ++ [b2, b3] ++ is.drop (q + 2)) := by
          rw [kt1, kt2, ← app_isD, ← app_isD]
          rfl
        have tl : (is.take q ++ [b2, b3] ++ is.drop (q + 2)).length = is.length := by
          simp only [List.length_append, List.length_take, List.length_drop, List.length_cons, List.length_nil]
          omega
        have tmem : ∀ z ∈ is.take q ++ [b2, b3] ++ is.drop (q + 2), 1 ≤ z ∧ z ≤ Mx := by
          intro z hz
          rcases List.mem_append.mp hz with h | h
          · rcases List.mem_append.mp h with h | h
            · exact uv.i _ (List.mem_of_mem_take h)
            · simp only [List.mem_cons, List.not_mem_nil, or_false] at h
              rcases h with h | h <;> (rw [h]; omega)
          · exact uv.i _ (List.mem_of_mem_drop h)
        have tt : Tn true 44 (Z.cutD (isD is) none (some (q : Int)) ++ [PyData.int b2, PyData.int b3] ++ Z.cutD (isD is) (some ((q : Int) + 2)) none) := tn_app (tn_app (tc true _ _) (tn_cons (el_i (by omega) (by omega)) (tn_1 (el_i (by omega) (by omega))))) (tc true _ _)
        have tto : ∀ w, Tn b 44 w → Tn b 44 w := fun w h => h
        have k4 := cutD_len (Z.cutD (isD is) none (some (q : Int)) ++ [PyData.int b2, PyData.int b3] ++ Z.cutD (isD is) (some ((q : Int) + 2)) none) none (some (-1))
        have k5 : (Z.cutD (isD is) none (some (q : Int)) ++ [PyData.int b2, PyData.int b3] ++ Z.cutD (isD is) (some ((q : Int) + 2)) none).length = is.length := by
          rw [et, len_isD, tl]
        have k6 := cutD_len (Z.cutD (isD is) none (some (j : Int)) ++ [od] ++ Z.cutD (isD is) (some ((j : Int) + 1)) none) (some ((q : Int) + 2)) none
        have k7 : (Z.cutD (isD is) none (some (j : Int)) ++ [od] ++ Z.cutD (isD is) (some ((j : Int) + 1)) none).length ≤ 43 := by
          simp only [List.length_append, List.length_cons, List.length_nil]
          omega
        have k8 := cutD_len (isD is) none (some (((isD is).length : Int) - 1))
        ((repeat walk_at "zs"); (try conv => whnf))
        refine ⟨Nat.le_trans (Nat.add_le_add_right k8 1) (show (isD is).length + 1 ≤ sizeLine by omega), ?_⟩
        ((repeat walk_at "zs"); (try conv => whnf))
        refine ⟨_, _, _, _, _, _, rfl, Vl.mono (((((vl.app ?_).app ?_).app ?_).app ?_).app ?_) (by decide), hC.push _⟩
        · refine .nv (tt.vok (by decide)) ?_
          rw [et]
          exact nv_asc (na_turn lt32)
        · refine .nv ((tn_app (tn_cut tt) (tn_1 (b := true) (d := .int 1) (el_i (by omega) (by omega)))).vok (by decide)) ?_
          rw [et, cutD_isD, cut_last]
          have e1 : isD (is.take q ++ [b2, b3] ++ is.drop (q + 2)).dropLast ++ [PyData.int 1] = isD ((is.take q ++ [b2, b3] ++ is.drop (q + 2)).dropLast ++ [1]) := app_isD _ [1]
          rw [e1]
          refine nv_asc (na_end ?_)
          have ld : 0 < (is.take q ++ [b2, b3] ++ is.drop (q + 2)).dropLast.length := by rw [List.length_dropLast, tl]; omega
          exact ⟨_, List.getElem_mem ld, (tmem _ (List.dropLast_subset _ (List.getElem_mem ld))).1⟩
        · refine .nv ((tn_app (tn_app (tn_app (tc b none (some (q : Int))) (tn_cons (d := .int b2) (el_i (by omega) (by omega)) (tn_1 (d := .int b3) (el_i (by omega) (by omega))))) (tn_cut (lo := some ((q : Int) + 2)) (hi := none) (tn_app (tn_app (tc b none (some (j : Int))) (tn_1 ro2)) (tc b (some ((j : Int) + 1)) none)))) (tn_1 (d := .int 0) (el_i (by omega) (by omega)))).vok (by decide)) (nv_mem (e := .int 0) (by simp) rfl)
        · have er : (isD is).reverse = isD is.reverse := by rw [isD, isD, List.map_reverse]
          rw [er]
          refine .nv ((tn_w (b := true) ⟨by rw [List.length_reverse]; exact uv.n, fun z hz => uv.i z (List.mem_reverse.mp hz)⟩).vok (by decide)) (nv_asc (na_rev au.a m2))
        · refine .nv ((tn_app (tc true _ _) (tn_1 (b := true) (d := .int pv) (el_i (by omega) (by omega)))).vok (by decide)) ?_
          rw [kt3]
          have e1 : isD (is.take (is.length - 1)) ++ [PyData.int pv] = isD (is.take (is.length - 1) ++ [pv]) := app_isD _ [pv]
          rw [e1]
          refine nv_asc (na_end ⟨pv, ?_, Int.le_refl _⟩)
          exact List.mem_of_getElem? (by rw [List.getElem?_take_of_lt (show is.length - 2 < is.length - 1 by omega)]; exact hpv)
    · ((repeat walk_at "zs"); (try conv => whnf))
      exact ⟨l, _, _, _, _, _, rfl, ⟨by omega, vl.v⟩, hB.push _⟩
  clear hB v6 v7 l6 nn nn3 lv2 per spl uve b1 b1' lpe lbe lp lb vch len1 vs hi ei i0 i1 v1 ro2 ro
  rintro ρ Ω ⟨l, r10, r11, r12, CH, OD, rfl, vl, hB⟩
  have ll := vl.n
  ((repeat walk_at "zs"); (try conv => whnf))
  refine .mk hB (by simp) (by simp) fun d hd Ω hB => ?_
  obtain ⟨z, rfl, z0, z1⟩ : ∃ z : Int, d = .int z ∧ 0 ≤ z ∧ z ≤ 300 := by
    simp only [List.mem_cons, List.not_mem_nil, or_false] at hd
    rcases hd with rfl | rfl | rfl | rfl
    all_goals exact ⟨_, rfl, by decide, by decide⟩
  obtain ⟨Ω3, rfl, hC⟩ := hB.pop
  obtain ⟨la, el, l0, l1⟩ : ∃ la, atI (isD is) (-1) = some (.int la) ∧ 1 ≤ la ∧ la ≤ Mx := by
    have e := List.getLast?_eq_some_getLast ne
    exact ⟨_, last_isD e, uv.i _ (List.mem_of_getLast? e)⟩
  ((repeat walk_at "zs"); (try conv => whnf))
  refine lc_relI (fun _ z => 1 ≤ z ∧ z ≤ 2 * Mx) (fun Ω' => Ω' = (a, .lst l) :: Ω3) (by rw [rgS_len]; omega) rfl (fun _ _ => trivial) (fun i2 y Ω Y N e hj kk => ?_) fun js Ω hn hP hj => ?_
  · subst hj
    obtain ⟨rfl, lt⟩ := rgS_get e
    ((repeat walk_at "zs"); (try conv => whnf))
    exact kk _ _ ⟨by omega, by omega⟩ rfl
  subst hj
  rw [rgS_len] at hn
  have lj := len_isD js
  have tj : Tn true 321 (isD js) := ⟨by rw [lj]; omega, fun d hd => by
    obtain ⟨z, hz, rfl⟩ := List.mem_map.mp hd
    obtain ⟨u, hu, rfl⟩ := List.mem_iff_getElem.mp hz
    have := hP u _ (List.getElem?_eq_getElem hu)
    exact el_i (by omega) (by omega)⟩
  ((repeat walk_at "zs"); (try conv => whnf))
  refine .mk (hC.push _) (by simp) (by simp) fun d hd Ω hB => ?_
  have p64 : ((10 : Int) ^ Int.toNat 64) = 10 ^ 64 := by decide +kernel
  obtain ⟨Ω4, rfl, hC⟩ := hB.pop
  have vd : Vok d ∧ Never d := by
    have tu : ∀ b, Rq 3 422200 b (.tuple (isD is)) := fun b => (rq_tup (tw b).r (tw b).n).mono (by decide) (by decide)
    simp only [List.mem_cons, List.not_mem_nil, or_false] at hd
    rcases hd with rfl | rfl | rfl | rfl | rfl | rfl | rfl | rfl | rfl | rfl | rfl | rfl
    · exact ⟨⟨trivial, true, (rq_of rep_none).mono (by decide) (by decide)⟩, nv_not fun ds q => by cases q⟩
    · exact ⟨⟨trivial, true, (rq_of rep_bool).mono (by decide) (by decide)⟩, nv_not fun ds q => by cases q⟩
    · exact ⟨⟨trivial, true, (mx_i true (by omega) (by omega)).mono (by decide) (by decide)⟩, nv_not fun ds q => by cases q⟩
    · exact ⟨⟨trivial, true, (rq_of (rep_str (by decide +kernel) (by decide +kernel))).mono (by decide) (by decide)⟩, nv_not fun ds q => by cases q⟩
    · exact ⟨⟨trivial, true, (rq_of (rep_str (by decide +kernel) (by decide +kernel))).mono (by decide) (by decide)⟩, nv_not fun ds q => by cases q⟩
    · exact ⟨⟨trivial, false, rq_dict0.mono (by decide) (by decide)⟩, nv_not fun ds q => by cases q⟩
    · exact ⟨⟨trivial, true, (rq_of (rep_lst (k := 0) (L := 2000) (n := 0) (ds := []) (by simp) (by simp))).mono (by decide) (by decide)⟩, nv_not fun ds q => by cases q⟩
    · refine ⟨⟨(by decide : 2 ≤ 1000), true, (rq_tup (k := 3) (L := 422200) (n := 2) (ds := [.str "sum", .tuple (isD is)]) (fun d hd => ?_) (by simp)).mono (by decide) (by decide)⟩, nv_mem (e := .str "sum") (by simp) rfl⟩
      simp only [List.mem_cons, List.not_mem_nil, or_false] at hd
      rcases hd with rfl | rfl
      · exact (rq_of (rep_str (by decide +kernel) (by decide +kernel))).mono (by decide) (by decide)
      · exact tu true
    · exact ⟨⟨(by decide : 1 ≤ 1000), true, (rq_tup (n := 1) (ds := [.tuple (isD is)]) (fun d hd => by obtain rfl := List.mem_singleton.mp hd; exact tu true) (by simp)).mono (by decide) (by decide)⟩, nv_mem (e := .tuple (isD is)) (by simp) rfl⟩
    · exact ⟨⟨(by decide : 1 ≤ 1000), true, (rq_tup (k := 1) (L := 4) (n := 1) (ds := [.tuple []]) (fun d hd => by obtain rfl := List.mem_singleton.mp hd; exact rq_tup (k := 0) (L := 0) (n := 0) (by simp) (by simp)) (by simp)).mono (by decide) (by decide)⟩, nv_mem (e := .tuple []) (by simp) rfl⟩
    · exact ⟨⟨trivial, false, (rq_dict1 (x := "units") (tu false) (by decide +kernel)).mono (by decide) (by decide)⟩, nv_not fun ds q => by cases q⟩
    · exact ⟨⟨trivial, true, (rq_int' true (by decide +kernel)).mono (by decide) (by decide)⟩, nv_not fun ds q => by cases q⟩
  ((repeat walk_at "zs"); (try conv => whnf))
  have k' : ∀ l Ω', Vl 23 l → Bag x L R Ω' → Φ (.d (.list l)) Ω' := fun l Ω' h b => k _ _ (Nat.le_trans h.n (by decide)) h.v b
  refine ⟨_, .here, _, .refl _, k' _ _ (((vl.app ?_).app ?_).app ?_) hC⟩
  · refine .nv ((tn_app (tw true) tj).vok (by decide)) (nv_len ?_)
    rw [List.length_append, lj]
    omega
  · refine .nv ((tn_app (tw true) (tn_rep (b := true) (d := .int 1) (el_i (by omega) (by omega)) (by omega))).vok (by decide)) (nv_len ?_)
    rw [List.length_append, len_repD]
    simp only [List.length_cons, List.length_nil]
    omega
  · exact .nv vd.1 vd.2
end
section
local macro_rules | `(tactic| walk_at "z1") => `(tactic| ((try dsimp only); first | done | exact True.intro | rfl | omega | exact Nat.le_of_ble_eq_true rfl | (exact ⟨by omega, by omega⟩) | (exact cmul (by omega) (by omega) (by omega) (by omega)) | (exact cdiv (by omega) (by omega)) | (exact Or.inl ⟨by omega, by omega⟩) | (exact Or.inr ⟨by omega, by omega⟩) | decide | assumption | (simp only [List.length_map, List.length_range, List.length_append, List.length_cons, List.length_nil, List.length_replicate, len_repD]; omega)))
local macro_rules | `(tactic| walk_at "zs") => `(tactic| ((conv => whnf); first | with_reducible refine br_T ?_ | with_reducible refine br_F ?_ | with_reducible refine br_d1 rfl ?_ | with_reducible refine br_n ?_ | ((with_reducible refine br_d1 ?_ ?_); (focus omega)) | ((with_reducible refine br_d0 ?_ ?_); (focus omega)) | ((fail_if_success with_reducible refine br_d ?_ ?_); refine br_T ?_) | ((fail_if_success with_reducible refine br_d ?_ ?_); refine br_F ?_) | refine And.intro (by walk_at "z1") ?_ | refine ⟨⟨_, _, .here, trivial⟩, ?_⟩ | refine ⟨_, _, .here, ?_⟩ | refine ⟨_, true, rfl, rfl, ?_⟩ | refine ⟨_, false, rfl, rfl, ?_⟩ | refine ⟨_, (by rfl : atI _ _ = some _), ?_⟩ | refine ⟨_, (by assumption : atI _ _ = some _), ?_⟩))
theorem w_l_is_greedy_right (Cl : Cls) (Fr : Addr → Prop) (svs : List SV) (Ω : Om) (Φ : PhiE) (Ξ : XA) (h : c_l_is_greedy_right svs Ω Φ Ξ) :
    a_l_is_greedy_right Cl Fr { nx := fun _ Ω => Φ (.d .none) Ω, rt := Φ } (startR N_l_is_greedy_right svs) Ω := by
  obtain ⟨hB, fx, k⟩ := h
  rename_i x X Y L R
  have g0 := gr_chk fx
  have ne := fx.ne
  have lvf := fx.lv
  have fx' := fx
  obtain ⟨y0, y1, x0, x1⟩ := fx'
  have ln := g0.au.n
  have lks : LikeOk 3 (.tuple (isD (grW X Y))) := like_ints (by omega)
  have lr := least_rng (a := X) (b := Y) (by omega) (by omega)
  have d0 : 1 ≤ 100 / (least X Y).2 := Int.le_ediv_of_mul_le (by omega) (by omega)
  have d1 : 100 / (least X Y).2 ≤ 100 := Int.ediv_le_self _ (by omega)
  ((repeat walk_at "zs"); (try conv => whnf))
  refine .mk fx ?_
  ((repeat walk_at "zs"); (try conv => whnf))
  refine .mk (by omega) y0 (b9_sm (by omega)) ?_
  ((repeat walk_at "zs"); (try conv => whnf))
  refine .mk fx ?_
  ((repeat walk_at "zs"); (try conv => whnf))
  refine .mk lks ?_
  ((repeat walk_at "zs"); (try conv => whnf))
  refine .mk fx ?_
  ((repeat walk_at "zs"); (try conv => whnf))
  refine .mk lks ?_
  ((repeat walk_at "zs"); (try conv => whnf))
  refine .mk hB (Int.lt_of_lt_of_le (by decide) d0) (bel (Int.lt_of_lt_of_le (by decide) d0) (Int.lt_of_le_of_lt d1 (by decide))) fun r Ω r0 r1 hB => ?_
  have r1 : r < 100 / (least X Y).2 := r1
  obtain ⟨fm, gm, lm⟩ := fx.mul (m := 1 + r) (by omega) (by omega)
  have cm1 : CMulX (1 + r) (least X Y).1 := cmul (by omega) (by omega) (by omega) (by omega)
  have cm2 : CMulX (1 + r) (least X Y).2 := cmul (by omega) (by omega) (by omega) (by omega)
  have dn : due ((1 + r) * (least X Y).1) ((1 + r) * (least X Y).2) (.tuple (isD (grW X Y))) = .none := by
    rw [g0.au.due, lm, if_pos lvf]
  ((repeat walk_at "zs"); (try conv => whnf))
  refine .mk fm ?_
  rw [gm]
  ((repeat walk_at "zs"); (try conv => whnf))
  refine .mk lks ?_
  ((repeat walk_at "zs"); (try conv => whnf))
  refine .mk fm (by show (isD _).length ≤ 1000; rw [len_isD]; omega) ?_
  rw [dn]
  ((repeat walk_at "zs"); (try conv => whnf))
  refine .mk (like_none (n := 3)) ?_
  ((repeat walk_at "zs"); (try conv => whnf))
  refine .mk g0.au.u ?_
  rw [lvf]
  ((repeat walk_at "zs"); (try conv => whnf))
  refine .mk (like3_prd (least X Y)) ?_
  ((repeat walk_at "zs"); (try conv => whnf))
  refine .mk hB g0.au ne lvf.symm fun l Ω ll vl hB => ?_
  ((repeat walk_at "zs"); (try conv => whnf))
  refine .mk hB fx ll vl fun Ω hB => ?_
  ((repeat walk_at "zs"); (try conv => whnf))
  refine .mk hB (by decide) (bel (by decide) (by decide)) fun r5 Ω r50 r51 hB => ?_
  ((repeat walk_at "zs"); (try conv => whnf))
  refine .mk hB (by simp) (by simp) fun d hd Ω hB => ?_
  obtain ⟨m, rfl, hm⟩ : ∃ m : Int, d = .int m ∧ m ≤ 21 := by
    have li := len_isD (grW X Y)
    simp only [List.mem_cons, List.not_mem_nil, or_false] at hd
    rcases hd with rfl | rfl | rfl | rfl | rfl
    · exact ⟨_, rfl, by omega⟩
    · exact ⟨_, rfl, by omega⟩
    · exact ⟨_, rfl, by omega⟩
    · exact ⟨_, rfl, by omega⟩
    · exact ⟨_, rfl, by omega⟩
  ((repeat walk_at "zs"); (try conv => whnf))
  refine .mk (s := least X Y) hB ⟨g0.au.u, g0.au.a, lvf⟩ ne ln hm fun js Ω ap nej hB => ?_
  have lj := len_isD js
  have jn := ap.u.n
  have vok : ∀ is : List Int, Uv is → Vok (.tuple (isD is)) := fun is h => (tn_w (b := true) h).vok (by decide)
  have vcj : Vc (.tuple [.tuple (isD js), prd (least X Y)]) := .is (vok _ ap.u) (by rw [ap.v])
  have vcd : Vc (.tuple [.tuple (isD (grW X Y)), prd (least X Y)]) := .is (vok _ g0.au.u) (by rw [lvf])
  ((repeat walk_at "zs"); (try conv => whnf))
  refine ⟨fun y Ω' => ∃ l, y = .d (.list l) ∧ l.length ≤ 100 ∧ (∀ e ∈ l, Vc e) ∧ Bag x L R Ω', ?_, ?_⟩
  · ((repeat walk_at "zs"); (try conv => whnf))
    refine br_d (fun z => ?_) fun z => ?_
    · ((repeat walk_at "zs"); (try conv => whnf))
      exact ⟨_, rfl, by simp, fun e he => by obtain rfl := List.mem_singleton.mp he; exact vcj, hB⟩
    · ((repeat walk_at "zs"); (try conv => whnf))
      refine .mk hB ⟨ap.u, by omega, ap.a⟩ nej ap.v.symm fun l Ω ll vl hB => ?_
      exact ⟨l, rfl, ll, vl, hB⟩
  · clear hB
    rintro y Ω ⟨l, rfl, ll, vl, hB⟩
    ((repeat walk_at "zs"); (try conv => whnf))
    refine .mk hB fun X2 Y2 Ω fx2 hB => ?_
    ((repeat walk_at "zs"); (try conv => whnf))
    refine .mk hB fx ll vl fun Ω hB => ?_
    ((repeat walk_at "zs"); (try conv => whnf))
    refine .mk hB fx2 (by simp) (fun e he => ?_) fun Ω hB => ?_
    · simp only [List.mem_cons, List.not_mem_nil, or_false] at he
      rcases he with rfl | rfl
      · exact vcd
      · exact vcj
    exact k _ hB
theorem vc_bad {ds : List PyData} {t e : PyData} (h : Vok (.tuple ds)) (he : e ∈ ds) (h2 : okI e = false) : Vc (.tuple [.tuple ds, t]) := .nv h (nv_mem he h2)
theorem mx_litP : (10 : Int) ^ 160 = Mx := by unfold Mx; rfl
theorem w_law (Cl : Cls) (Fr : Addr → Prop) (svs : List SV) (Ω : Om) (Φ : PhiE) (Ξ : XA) (h : c_law svs Ω Φ Ξ) :
    a_law Cl Fr { nx := fun _ Ω => Φ (.d .none) Ω, rt := Φ } (startR N_law svs) Ω := by
  obtain ⟨ok, k⟩ := h
  rename_i ns
  have mx := mx_lo
  conv => whnf
  refine .mk ok fun x Ω hB => ?_
  ((repeat walk_at "zs"); (try conv => whnf))
  refine .mk ?_
  ((repeat walk_at "zs"); (try conv => whnf))
  rw [mx_l]
  refine .mk (d := .tuple (isD [100, 20, Mx, 1000])) (like_ints (by simp)) ?_
  ((repeat walk_at "zs"); (try conv => whnf))
  refine .mk hB fun X0 Y0 Ω fx0 hB => ?_
  ((repeat walk_at "zs"); (try conv => whnf))
  refine .mk hB fx0 fun Ω hB => ?_
  ((repeat walk_at "zs"); (try conv => whnf))
  refine .mk hB fun Ω hB => ?_
  ((repeat walk_at "zs"); (try conv => whnf))
  refine .mk hB fun X Y is Ω fx au ne lve hB => ?_
  have fx' := fx
  obtain ⟨y0, y1, x0, x1⟩ := fx'
  ((repeat walk_at "zs"); (try conv => whnf))
  refine .mk (by omega) y0 (b9_sm (by omega)) ?_
  rw [← lve]
  ((repeat walk_at "zs"); (try conv => whnf))
  refine .mk hB au ne rfl fun l Ω ll vl hB => ?_
  ((repeat walk_at "zs"); (try conv => whnf))
  refine .mk hB fx ll vl fun Ω hB => ?_
  ((repeat walk_at "zs"); (try conv => whnf))
  refine .mk hB fun js Ω auj hB => ?_
  ((repeat walk_at "zs"); (try conv => whnf))
  refine .mk auj.u ?_
  have vok : ∀ is : List Int, Uv is → Vok (.tuple (isD is)) := fun is h => (tn_w (b := true) h).vok (by decide)
  have u1 : Uv [1] := ⟨by simp, fun i hi => by obtain rfl := List.mem_singleton.mp hi; omega⟩
  have u3 : Uv [2, 3, 6] := ⟨by simp, fun i hi => by
    simp only [List.mem_cons, List.not_mem_nil, or_false] at hi
    rcases hi with rfl | rfl | rfl <;> omega⟩
  have l1 : lv [1] = (1, 1) := by decide +kernel
  have l3 : lv [2, 3, 6] = (1, 1) := by decide +kernel
  have vt : Vc (.tuple [.tuple [.bool true], .none]) := vc_bad ((tn_1 (b := true) el_b).vok (by decide)) (List.mem_singleton.mpr rfl) rfl
  have v1 : Vc (.tuple [.tuple [.int 1], prd (1, 1)]) := Vc.is (js := [1]) (vok _ u1) (by rw [l1])
  have v3 : Vc (.tuple [.tuple [.int 2, .int 3, .int 6], prd (1, 1)]) := Vc.is (js := [2, 3, 6]) (vok _ u3) (by rw [l3])
  have vj : Vc (.tuple [.tuple (isD js), prd (lv js)]) := .is (vok _ auj.u) rfl
  ((repeat walk_at "zs"); (try conv => whnf))
  refine .mk hB fx (by simp) (fun e he => ?_) fun Ω hB => ?_
  · simp only [List.mem_cons, List.not_mem_nil, or_false] at he
    rcases he with rfl | rfl | rfl
    · exact vj
    · exact vt
    · exact v1
  ((repeat walk_at "zs"); (try conv => whnf))
  refine .mk hB ⟨y0, y1, y0, Int.le_refl _⟩ (by simp) (fun e he => ?_) fun Ω hB => ?_
  · simp only [List.mem_cons, List.not_mem_nil, or_false] at he
    rcases he with rfl | rfl | rfl | rfl
    · exact v1
    · exact vt
    · exact v1
    · exact v3
  ((repeat walk_at "zs"); (try conv => whnf))
  refine .mk hB fun X2 Y2 Ω fx2 hB => ?_
  ((repeat walk_at "zs"); (try conv => whnf))
  refine .mk fx2 ?_
  ((repeat walk_at "zs"); (try conv => whnf))
  refine .mk fx2 ?_
  ((repeat walk_at "zs"); (try conv => whnf))
  have lks : ∀ {X Y}, Fx X Y → LikeOk 3 (.tuple (isD (grW X Y))) := fun f => like_ints (by have := (gr_chk f).au.n; omega)
  refine .mk (lks fx2) ?_
  ((repeat walk_at "zs"); (try conv => whnf))
  refine .mk fx0 ?_
  ((repeat walk_at "zs"); (try conv => whnf))
  refine .mk fx0 ?_
  ((repeat walk_at "zs"); (try conv => whnf))
  refine .mk (lks fx0) ?_
  exact k _
end
theorem d_is_number {P : Program} {w : World} {K : PySem.W.Frag} {mg : Str → Option Value} {base : Heap} {f : Addr} {cdv : Value} {A : Around} {outer : List Env} {s : Shared} {H : Hp} {E : XK} {G : Gn} (T : Top K mg) (hgd : A.guards = some [])
    (hr : Room 0 (A.deeper (envOfC "is_number" (defScope s_is_number) s.heap.objs.size f cdv))) :
    JSs (cxOf CX0 P w K mg base N_is_number "is_number" (defScope s_is_number) f cdv A outer s H E).nox G (defBody s_is_number) (a_is_number T.cl fun p => G.H0 p = none) :=
    (jss_one (js_ret (je_and (je_callB jc_isi rfl T.n_isinstance (by decide +kernel) (ja_cons (je_var (pv 0)) (ja_cons (je_raw (v := .ty "int") (pe_bltn rfl T.n_int (by decide +kernel) rfl)) ja_nil))) (je_one (je_not (je_callB jc_isi rfl T.n_isinstance (by decide +kernel) (ja_cons (je_var (pv 0)) (ja_cons (je_raw (v := .ty "bool") (pe_bltn rfl T.n_bool (by decide +kernel) rfl)) ja_nil))))))))
theorem ok_is_number {P : Program} {w : World} {K : PySem.W.Frag} {mg : Str → Option Value} {base : Heap} (T : Top K mg) : FnG P w K mg base CX0 1 T.f_is_number T.fd_is_number ["value"] (spOf K c_is_number) :=
  fn_ok0 (k := 0) T.F_is_number sc_is_number ari_is_number (fun cdv A outer s H E G hgd hr => d_is_number T hgd hr) (w_is_number T.cl)
theorem d_in_least_terms {P : Program} {w : World} {K : PySem.W.Frag} {mg : Str → Option Value} {base : Heap} {f : Addr} {cdv : Value} {A : Around} {outer : List Env} {s : Shared} {H : Hp} {E : XK} {G : Gn} (T : Top K mg) (hgd : A.guards = some [])
    (hr : Room 0 (A.deeper (envOfC "in_least_terms" (defScope s_in_least_terms) s.heap.objs.size f cdv))) :
    JSs (cxOf CX0 P w K mg base N_in_least_terms "in_least_terms" (defScope s_in_least_terms) f cdv A outer s H E).nox G (defBody s_in_least_terms) (a_in_least_terms T.cl fun p => G.H0 p = none) :=
    (jss_cons (js_set (i := 2) sc_in_least_terms.nd rfl (Or.inl rfl) (je_callGB jc_gcd rfl T.i_gcd (ja_cons (je_var (pv 0)) (ja_cons (je_var (pv 1)) ja_nil))))
    (jss_one (js_ret (je_tup (ja_cons (je_bin jo_div (je_var (pv 0)) (je_var (pv 2))) (ja_cons (je_bin jo_div (je_var (pv 1)) (je_var (pv 2))) ja_nil))))))
theorem ok_in_least_terms {P : Program} {w : World} {K : PySem.W.Frag} {mg : Str → Option Value} {base : Heap} (T : Top K mg) : FnG P w K mg base CX0 1 T.f_in_least_terms T.fd_in_least_terms ["above", "below"] (spOf K c_in_least_terms) :=
  fn_ok0 (k := 0) T.F_in_least_terms sc_in_least_terms ari_in_least_terms (fun cdv A outer s H E G hgd hr => d_in_least_terms T hgd hr) (w_in_least_terms T.cl)
theorem d_split_unit {P : Program} {w : World} {K : PySem.W.Frag} {mg : Str → Option Value} {base : Heap} {f : Addr} {cdv : Value} {A : Around} {outer : List Env} {s : Shared} {H : Hp} {E : XK} {G : Gn} (T : Top K mg) (hgd : A.guards = some [])
    (hr : Room 0 (A.deeper (envOfC "split_unit" (defScope s_split_unit) s.heap.objs.size f cdv))) {Ξ : XA} (hX : ∀ {x : XI} {Ω : Om} {P' F H : Hp} {cls : Value} {d : Option Addr}, Ξ x Ω → Ok ⟨G, K⟩ P' F H Ω → RpX K F H cls d x → E cls d H) :
    JSs (cxOf (L2N.CX P w) P w K mg base N_split_unit "split_unit" (defScope s_split_unit) f cdv A outer s H E) G (defBody s_split_unit) (a_split_unit T.cl (fun p => G.H0 p = none) Ξ) :=
    (jss_cons (js_if (jt_cmp (jo_eq hr.units) (je_var (pv 0)) je_int (nomark _)) (jss_one (js_raise rfl (L2N.takes_of rfl rfl rfl rfl) (xok_of hX) (mk_own0 PySem.F.excBase_ValueError T.xi_Unfit T.g_Unfit T.kp_Unfit (raises_own T.be_Unfit T.ty_Unfit) rfl))) jss_nil)
    (jss_one (js_ret (je_tup (ja_cons (je_bin (jo_add mok0) (je_var (pv 0)) je_int) (ja_cons (je_bin jo_mulI (je_var (pv 0)) (je_bin (jo_add mok0) (je_var (pv 0)) je_int)) ja_nil))))))
theorem ok_split_unit {P : Program} {w : World} {K : PySem.W.Frag} {mg : Str → Option Value} {base : Heap} (T : Top K mg) : FnG P w K mg base (L2N.CX P w) 1 T.f_split_unit T.fd_split_unit ["n"] (spOf K (c_split_unit T.cl)) :=
  fn_ok (k := 0) (as := fun Fr Ξ => a_split_unit T.cl Fr Ξ) T.F_split_unit sc_split_unit (ari_split_unit T.cl) (fun cdv A outer s H E G Ξ hgd hr hX => d_split_unit T hgd hr hX) (w_split_unit T.cl)
theorem d_l_own_bag {P : Program} {w : World} {K : PySem.W.Frag} {mg : Str → Option Value} {base : Heap} {f : Addr} {cdv : Value} {A : Around} {outer : List Env} {s : Shared} {H : Hp} {E : XK} {G : Gn} (T : Top K mg) (hgd : A.guards = some [])
    (hr : Room 0 (A.deeper (envOfC "_law_own_bag" (defScope s_l_own_bag) s.heap.objs.size f cdv))) :
    JSs (cxOf CX0 P w K mg base N_l_own_bag "_law_own_bag" (defScope s_l_own_bag) f cdv A outer s H E).nox G (defBody s_l_own_bag) (a_l_own_bag T.cl fun p => G.H0 p = none) :=
    (jss_cons (lc2s (js_setLc mok0 rfl sc_l_own_bag.nd rfl rfl (sw_true rfl rfl rfl (by decide +kernel)) (ji_of (je_sl mok0 (je_var (pv 0)) jp_none (jp_some je_int))) (blkOk_by (own := [("cell", 3)]) (N := N_l_own_bag) (sc := defScope s_l_own_bag) (by decide +kernel)) (fun _ => (jgo_name (i := 3) (by first | decide | simp) sc_l_own_bag.nd rfl (Or.inl rfl))) (fun _ => jts_nil) (fun _ => (je_callB jc_abs rfl T.n_abs (by decide +kernel) (ja_cons (je_var (pv 3)) ja_nil))) (own := [("cell", 3)])))
    (jss_cons (js_set (i := 2) sc_l_own_bag.nd rfl (Or.inl rfl) (je_bin (jo_add mok0) je_int (je_callB jc_len rfl T.n_len (by decide +kernel) (ja_cons (je_var (pv 1)) ja_nil))))
    (jss_cons (js_for PassesOwn.never rfl (ji_of (je_var (pv 1))) (jg_name (i := 3) sc_l_own_bag.nd rfl (Or.inl rfl)) (jss_one (js_set (i := 2) sc_l_own_bag.nd rfl (Or.inl rfl) (je_bin jo_mod (je_callTy jc_int rfl T.n_int (by decide +kernel) (ja_cons (je_bin (jo_add mok0) (je_bin (jo_add mok0) (je_bin jo_mulI (je_var (pv 2)) je_int) (je_bin jo_mod (je_callTy jc_int rfl T.n_int (by decide +kernel) (ja_cons (je_var (pv 3)) ja_nil)) je_int)) je_int) ja_nil)) je_int))))
    (jss_one (js_ret (je_lst mok1 (ja_cons (je_listRev mok1 rfl rfl T.n_list rfl T.n_reversed (je_callTy (jc_listOf mok0) rfl T.n_list (by decide +kernel) (ja_cons (je_var (pv 1)) ja_nil))) (ja_cons je_int (ja_cons (je_var (pv 2)) ja_nil)))))))))
theorem ok_l_own_bag {P : Program} {w : World} {K : PySem.W.Frag} {mg : Str → Option Value} {base : Heap} (T : Top K mg) : FnG P w K mg base CX0 1 T.f_l_own_bag T.fd_l_own_bag ["script"] (spOf K c_l_own_bag) :=
  fn_ok0 (k := 0) T.F_l_own_bag sc_l_own_bag ari_l_own_bag (fun cdv A outer s H E G hgd hr => d_l_own_bag T hgd hr) (w_l_own_bag T.cl)
theorem d_l_draw {P : Program} {w : World} {K : PySem.W.Frag} {mg : Str → Option Value} {base : Heap} {f : Addr} {cdv : Value} {A : Around} {outer : List Env} {s : Shared} {H : Hp} {E : XK} {G : Gn} (T : Top K mg) (hgd : A.guards = some [])
    (hr : Room 0 (A.deeper (envOfC "_law_draw" (defScope s_l_draw) s.heap.objs.size f cdv))) :
    JSs (cxOf CX0 P w K mg base N_l_draw "_law_draw" (defScope s_l_draw) f cdv A outer s H E).nox G (defBody s_l_draw) (a_l_draw T.cl fun p => G.H0 p = none) :=
    (jss_cons (js_while PassesOwn.never (jw_pt (jw_and (jt_cmp (jo_eq hr.units) (je_ix jx_seq (je_var (pv 0)) je_int (fun _ _ => rfl)) je_int (nomark _)) (jw_and1 (jt_cmp (jo_ne hr.units) (je_ix jx_seq (je_var (pv 0)) je_int (fun _ _ => rfl)) (je_lst mok0 ja_nil) (nomark _))))) (jss_cons (js_set (i := 2) sc_l_draw.nd rfl (Or.inl rfl) (je_ml0 PySem.F.slot_list_pop PySem.F.type_list_pop jm_pop (je_ix jx_seq (je_var (pv 0)) je_int (fun _ _ => rfl))))
    (jss_one (js_setAt (by intro _ _ _ p q r; exact ps_asg p (pg_sub q r set_list)) (je_if (jt_cmp jo_gt (je_var (pv 2)) (je_bin jo_pow je_int je_int) (nomark _)) (je_var (pv 2)) je_int) (je_var (pv 0)) je_int))))
    (jss_cons (js_if (jt_cmp jo_gt (je_ix jx_seq (je_var (pv 0)) je_int (fun _ _ => rfl)) je_int (nomark _)) (jss_cons (js_set (i := 3) sc_l_draw.nd rfl (Or.inl rfl) (je_bin jo_mod (je_callTy jc_int rfl T.n_int (by decide +kernel) (ja_cons (je_ix jx_seq (je_var (pv 0)) je_int (fun _ _ => rfl)) ja_nil)) (je_var (pv 1))))
    (jss_cons (js_setAt (by intro _ _ _ p q r; exact ps_asg p (pg_sub q r set_list)) (je_bin jo_div (je_ix jx_seq (je_var (pv 0)) je_int (fun _ _ => rfl)) (je_var (pv 1))) (je_var (pv 0)) je_int)
    (jss_one (js_ret (je_var (pv 3)))))) jss_nil)
    (jss_cons (js_setAt (by intro _ _ _ p q r; exact ps_asg p (pg_sub q r set_list)) (je_bin jo_mod (je_callTy jc_int rfl T.n_int (by decide +kernel) (ja_cons (je_bin (jo_add mok0) (je_bin jo_mulI (je_ix jx_seq (je_var (pv 0)) je_int (fun _ _ => rfl)) je_int) je_int) ja_nil)) je_int) (je_var (pv 0)) je_int)
    (jss_one (js_ret (je_bin jo_mod (je_callTy jc_int rfl T.n_int (by decide +kernel) (ja_cons (je_bin jo_div (je_bin jo_mod (je_callTy jc_int rfl T.n_int (by decide +kernel) (ja_cons (je_bin jo_mulI (je_ix jx_seq (je_var (pv 0)) je_int (fun _ _ => rfl)) (je_ix jx_seq (je_var (pv 0)) je_int (fun _ _ => rfl))) ja_nil)) je_int) je_int) ja_nil)) (je_var (pv 1))))))))
theorem ok_l_draw {P : Program} {w : World} {K : PySem.W.Frag} {mg : Str → Option Value} {base : Heap} (T : Top K mg) : FnG P w K mg base CX0 1 T.f_l_draw T.fd_l_draw ["bag", "below"] (spOf K c_l_draw) :=
  fn_ok0 (k := 0) T.F_l_draw sc_l_draw ari_l_draw (fun cdv A outer s H E G hgd hr => d_l_draw T hgd hr) (w_l_draw T.cl)
theorem d_l_gcd {P : Program} {w : World} {K : PySem.W.Frag} {mg : Str → Option Value} {base : Heap} {f : Addr} {cdv : Value} {A : Around} {outer : List Env} {s : Shared} {H : Hp} {E : XK} {G : Gn} (T : Top K mg) (hgd : A.guards = some [])
    (hr : Room 0 (A.deeper (envOfC "_law_gcd" (defScope s_l_gcd) s.heap.objs.size f cdv))) :
    JSs (cxOf CX0 P w K mg base N_l_gcd "_law_gcd" (defScope s_l_gcd) f cdv A outer s H E).nox G (defBody s_l_gcd) (a_l_gcd T.cl fun p => G.H0 p = none) :=
    (jss_cons (js_while PassesOwn.never (jt_cmp (jo_ne hr.units) (je_var (pv 1)) je_int (nomark _)) (jss_one (js_par2 (i := 0) (j := 1) rfl sc_l_gcd.nd rfl rfl (by decide) rfl rfl (ja_cons (je_var (pv 1)) (ja_cons (je_bin jo_mod (je_callTy jc_int rfl T.n_int (by decide +kernel) (ja_cons (je_var (pv 0)) ja_nil)) (je_var (pv 1))) ja_nil)) rfl)))
    (jss_one (js_ret (je_var (pv 0)))))
theorem ok_l_gcd {P : Program} {w : World} {K : PySem.W.Frag} {mg : Str → Option Value} {base : Heap} (T : Top K mg) : FnG P w K mg base CX0 1 T.f_l_gcd T.fd_l_gcd ["one", "other"] (spOf K c_l_gcd) :=
  fn_ok0 (k := 0) T.F_l_gcd sc_l_gcd ari_l_gcd (fun cdv A outer s H E G hgd hr => d_l_gcd T hgd hr) (w_l_gcd T.cl)
theorem d_l_most {P : Program} {w : World} {K : PySem.W.Frag} {mg : Str → Option Value} {base : Heap} {f : Addr} {cdv : Value} {A : Around} {outer : List Env} {s : Shared} {H : Hp} {E : XK} {G : Gn} (T : Top K mg) (hgd : A.guards = some [])
    (hr : Room 0 (A.deeper (envOfC "_law_most" (defScope s_l_most) s.heap.objs.size f cdv))) :
    JSs (cxOf CX0 P w K mg base N_l_most "_law_most" (defScope s_l_most) f cdv A outer s H E).nox G (defBody s_l_most) (a_l_most T.cl fun p => G.H0 p = none) :=
    (jss_one (js_ret (je_bin jo_powX (je_bin jo_powX je_int je_int) je_int)))
theorem ok_l_most {P : Program} {w : World} {K : PySem.W.Frag} {mg : Str → Option Value} {base : Heap} (T : Top K mg) : FnG P w K mg base CX0 1 T.f_l_most T.fd_l_most [] (spOf K c_l_most) :=
  fn_ok0 (k := 0) T.F_l_most sc_l_most ari_l_most (fun cdv A outer s H E G hgd hr => d_l_most T hgd hr) (w_l_most T.cl)
theorem d_l_greedy {P : Program} {w : World} {K : PySem.W.Frag} {mg : Str → Option Value} {base : Heap} {f : Addr} {cdv : Value} {A : Around} {outer : List Env} {s : Shared} {H : Hp} {E : XK} {G : Gn} (T : Top K mg) (hgd : A.guards = some [])
    (hr : Room 0 (A.deeper (envOfC "_law_greedy" (defScope s_l_greedy) s.heap.objs.size f cdv))) :
    JSs (cxOf CX0 P w K mg base N_l_greedy "_law_greedy" (defScope s_l_greedy) f cdv A outer s H E).nox G (defBody s_l_greedy) (a_l_greedy T.cl fun p => G.H0 p = none) :=
    (jss_cons (js_par3 (i := 2) (j := 3) (l := 4) rfl sc_l_greedy.nd rfl rfl rfl (by decide) (by decide) (by decide) rfl rfl rfl (ja_cons (je_var (pv 0)) (ja_cons (je_var (pv 1)) (ja_cons (je_lst mok1 ja_nil) ja_nil))) rfl)
    (jss_cons (js_while PassesOwn.never (jt_cmp jo_gt (je_var (pv 2)) je_int (nomark _)) (jss_cons (js_set (i := 5) sc_l_greedy.nd rfl (Or.inl rfl) (je_bin jo_div (je_bin jo_sub (je_bin (jo_add mok0) (je_var (pv 3)) (je_var (pv 2))) je_int) (je_var (pv 2))))
    (jss_cons (js_expr (je_ml PySem.F.slot_list_append PySem.F.type_list_append jm_append (je_var (pv 4)) (ja_cons (je_var (pv 5)) ja_nil)))
    (jss_one (js_par2 (i := 2) (j := 3) rfl sc_l_greedy.nd rfl rfl (by decide) rfl rfl (ja_cons (je_bin jo_sub (je_bin jo_mulI (je_var (pv 2)) (je_var (pv 5))) (je_var (pv 3))) (ja_cons (je_bin jo_mulI (je_var (pv 3)) (je_var (pv 5))) ja_nil)) rfl)))))
    (jss_one (js_retD (je_callTy jc_tupleOf rfl T.n_tuple (by decide +kernel) (ja_cons (je_var (pv 4)) ja_nil))))))
theorem ok_l_greedy {P : Program} {w : World} {K : PySem.W.Frag} {mg : Str → Option Value} {base : Heap} (T : Top K mg) : FnG P w K mg base CX0 1 T.f_l_greedy T.fd_l_greedy ["x", "y"] (spOf K c_l_greedy) :=
  fn_ok0 (k := 0) T.F_l_greedy sc_l_greedy ari_l_greedy (fun cdv A outer s H E G hgd hr => d_l_greedy T hgd hr) (w_l_greedy T.cl)
theorem d_l_is_lone {P : Program} {w : World} {K : PySem.W.Frag} {mg : Str → Option Value} {base : Heap} {f : Addr} {cdv : Value} {A : Around} {outer : List Env} {s : Shared} {H : Hp} {E : XK} {G : Gn} {p : Addr × Obj} (T : Top K mg) (hgd : A.guards = some []) (hot : L2H.Hot1 A p) (hz : L2N.Zn (.ref T.cl.Unfit) none p.2)
    (hr : L2H.RoomH 0 (A.deeper (envOfC "_law_is_lone" (defScope s_l_is_lone) s.heap.objs.size f cdv))) :
    JSs (L2H.cxH CX0 P w K mg base N_l_is_lone "_law_is_lone" (defScope s_l_is_lone) f cdv A outer s H E p) G (defBody s_l_is_lone) (a_l_is_lone T.cl p.1) :=
    (jss_cons (js_if (jt_of (je_isET List.mem_cons_self T.ec_Unfit hz ⟨_, hot.2.choose_spec.1⟩ rfl T.n_isinstance (je_var (pv 0)) (pac_cons (v := .ref T.cl.TooMany) (pe_glob rfl T.g_TooMany rfl) (pac_cons (v := .ref T.cl.BadText) (pe_glob rfl T.g_BadText rfl) (pac_cons (v := .ref T.cl.BadWord) (pe_glob rfl T.g_BadWord rfl) (pac_cons (v := .ref T.cl.BadLog) (pe_glob rfl T.g_BadLog rfl) (pac_cons (v := .ref T.cl.Refused) (pe_glob rfl T.g_Refused rfl) pac_nil))))) (Nat.le_of_ble_eq_true rfl) (.cons (.own _) (.cons (.own _) (.cons (.own _) (.cons (.own _) (.cons (.own _) .nil))))) (kitAny_cons T.is_Unfit_TooMany (fun _ => (kitAny_cons T.is_Unfit_BadText (fun _ => (kitAny_cons T.is_Unfit_BadWord (fun _ => (kitAny_cons T.is_Unfit_BadLog (fun _ => (kitAny_cons T.is_Unfit_Refused (fun _ => kitAny_nil) (fun h => nomatch h))) (fun h => nomatch h))) (fun h => nomatch h))) (fun h => nomatch h))) (fun h => nomatch h)))) (jss_one (js_ret je_bl)) jss_nil)
    (jss_cons (js_if (jt_of (je_isET List.mem_cons_self T.ec_Unfit hz ⟨_, hot.2.choose_spec.1⟩ rfl T.n_isinstance (je_var (pv 0)) (pac_cons (v := .ref T.cl.NothingToUndo) (pe_glob rfl T.g_NothingToUndo rfl) (pac_cons (v := .ref T.cl.NothingToRedo) (pe_glob rfl T.g_NothingToRedo rfl) (pac_cons (v := .ref T.cl.NoName) (pe_glob rfl T.g_NoName rfl) (pac_cons (v := .ref T.cl.NoVersion) (pe_glob rfl T.g_NoVersion rfl) pac_nil)))) (Nat.le_of_ble_eq_true rfl) (.cons (.own _) (.cons (.own _) (.cons (.own _) (.cons (.own _) .nil)))) (kitAny_cons T.is_Unfit_NothingToUndo (fun _ => (kitAny_cons T.is_Unfit_NothingToRedo (fun _ => (kitAny_cons T.is_Unfit_NoName (fun _ => (kitAny_cons T.is_Unfit_NoVersion (fun _ => kitAny_nil) (fun h => nomatch h))) (fun h => nomatch h))) (fun h => nomatch h))) (fun h => nomatch h)))) (jss_one (js_ret je_bl)) jss_nil)
    (jss_one (js_ret (je_and (je_callB (jc_isE List.mem_cons_self T.ec_Unfit hz ⟨_, hot.2.choose_spec.1⟩ is_ref T.is_Unfit_Unfit) rfl T.n_isinstance (by decide +kernel) (ja_cons (je_var (pv 0)) (ja_cons (je_raw (v := .ref T.cl.Unfit) (pe_glob rfl T.g_Unfit rfl)) ja_nil))) (je_and (je_callB (jc_isE List.mem_cons_self T.ec_Unfit hz ⟨_, hot.2.choose_spec.1⟩ is_ref T.is_Unfit_BaseError) rfl T.n_isinstance (by decide +kernel) (ja_cons (je_var (pv 0)) (ja_cons (je_raw (v := .ref T.cl.BaseError) (pe_glob rfl T.g_BaseError rfl)) ja_nil))) (je_one (je_callB (jc_isE List.mem_cons_self T.ec_Unfit hz ⟨_, hot.2.choose_spec.1⟩ is_ty T.is_Unfit_ValueError) rfl T.n_isinstance (by decide +kernel) (ja_cons (je_var (pv 0)) (ja_cons (je_raw (v := .ty "ValueError") (pe_bltn rfl T.n_ValueError (by decide +kernel) rfl)) ja_nil))))))))))
theorem ok_l_is_lone {P : Program} {w : World} {K : PySem.W.Frag} {mg : Str → Option Value} {base : Heap} (T : Top K mg) : FnE P w K mg base T.cl.Unfit 1 T.f_l_is_lone T.fd_l_is_lone ["error"] true :=
  fnE_of (k := 0) T.F_l_is_lone sc_l_is_lone rfl (fun cdv A outer s H E G p hgd hot hz hr => d_l_is_lone T hgd hot hz hr) (w_l_is_lone T.cl)
theorem d_is_within {P : Program} {w : World} {K : PySem.W.Frag} {mg : Str → Option Value} {base : Heap} {f : Addr} {cdv : Value} {A : Around} {outer : List Env} {s : Shared} {H : Hp} {E : XK} {G : Gn} (T : Top K mg) (hgd : A.guards = some [])
    (hr : Room 1 (A.deeper (envOfC "is_within" (defScope s_is_within) s.heap.objs.size f cdv))) :
    JSs (cxOf CX0 P w K mg base N_is_within "is_within" (defScope s_is_within) f cdv A outer s H E).nox G (defBody s_is_within) (a_is_within T.cl fun p => G.H0 p = none) :=
    (jss_one (js_ret (je_and (je_call (ok_is_number T) (hr.mono (by decide)) hgd rfl T.m_is_number T.F_is_number.kp (b_is_number T) (fun _ => passAt0) (@xok0 _ _ _) (ja_cons (je_var (pv 0)) ja_nil)) (je_one (je_chain jo_le jo_le (je_var (pv 1)) (je_var (pv 0)) (je_var (pv 2)))))))
theorem ok_is_within {P : Program} {w : World} {K : PySem.W.Frag} {mg : Str → Option Value} {base : Heap} (T : Top K mg) : FnG P w K mg base CX0 2 T.f_is_within T.fd_is_within ["value", "least", "most"] (spOf K c_is_within) :=
  fn_ok0 (k := 1) T.F_is_within sc_is_within ari_is_within (fun cdv A outer s H E G hgd hr => d_is_within T hgd hr) (w_is_within T.cl)
theorem d_greedy_units {P : Program} {w : World} {K : PySem.W.Frag} {mg : Str → Option Value} {base : Heap} {f : Addr} {cdv : Value} {A : Around} {outer : List Env} {s : Shared} {H : Hp} {E : XK} {G : Gn} (T : Top K mg) (hgd : A.guards = some [])
    (hr : Room 1 (A.deeper (envOfC "greedy_units" (defScope s_greedy_units) s.heap.objs.size f cdv))) :
    JSs (cxOf CX0 P w K mg base N_greedy_units "greedy_units" (defScope s_greedy_units) f cdv A outer s H E).nox G (defBody s_greedy_units) (a_greedy_units T.cl fun p => G.H0 p = none) :=
    (jss_cons (js_set (i := 2) sc_greedy_units.nd rfl (Or.inl rfl) (je_lst mok1 ja_nil))
    (jss_cons (js_while PassesOwn.never (jt_cmp jo_gt (je_var (pv 0)) je_int (nomark _)) (jss_cons (js_set (i := 3) sc_greedy_units.nd rfl (Or.inl rfl) (je_un ju_neg (je_bin jo_div (je_un ju_neg (je_var (pv 1))) (je_var (pv 0)))))
    (jss_cons (js_expr (je_ml PySem.F.slot_list_append PySem.F.type_list_append jm_append (je_var (pv 2)) (ja_cons (je_var (pv 3)) ja_nil)))
    (jss_one (js_asg (je_call (ok_in_least_terms T) (hr.mono (by decide)) hgd rfl T.m_in_least_terms T.F_in_least_terms.kp (b_in_least_terms T) (fun _ => passAt0) (@xok0 _ _ _) (ja_cons (je_bin jo_sub (je_bin jo_mulI (je_var (pv 0)) (je_var (pv 3))) (je_var (pv 1))) (ja_cons (je_bin jo_mulI (je_var (pv 1)) (je_var (pv 3))) ja_nil))) (jg_tup rfl (jgs1 (jg_name (i := 0) sc_greedy_units.nd rfl (Or.inl rfl)) (jgs1 (jg_name (i := 1) sc_greedy_units.nd rfl (Or.inl rfl)) jgs0))))))))
    (jss_one (js_retD (je_callTy jc_tupleOf rfl T.n_tuple (by decide +kernel) (ja_cons (je_var (pv 2)) ja_nil))))))
theorem ok_greedy_units {P : Program} {w : World} {K : PySem.W.Frag} {mg : Str → Option Value} {base : Heap} (T : Top K mg) : FnG P w K mg base CX0 2 T.f_greedy_units T.fd_greedy_units ["x", "y"] (spOf K c_greedy_units) :=
  fn_ok0 (k := 1) T.F_greedy_units sc_greedy_units ari_greedy_units (fun cdv A outer s H E G hgd hr => d_greedy_units T hgd hr) (w_greedy_units T.cl)
theorem d_units_sum {P : Program} {w : World} {K : PySem.W.Frag} {mg : Str → Option Value} {base : Heap} {f : Addr} {cdv : Value} {A : Around} {outer : List Env} {s : Shared} {H : Hp} {E : XK} {G : Gn} (T : Top K mg) (hgd : A.guards = some [])
    (hr : Room 1 (A.deeper (envOfC "units_sum" (defScope s_units_sum) s.heap.objs.size f cdv))) :
    JSs (cxOf CX0 P w K mg base N_units_sum "units_sum" (defScope s_units_sum) f cdv A outer s H E).nox G (defBody s_units_sum) (a_units_sum T.cl fun p => G.H0 p = none) :=
    (jss_cons (js_asg (je_tup (ja_cons je_int (ja_cons je_int ja_nil))) (jg_tup rfl (jgs1 (jg_name (i := 1) sc_units_sum.nd rfl (Or.inl rfl)) (jgs1 (jg_name (i := 2) sc_units_sum.nd rfl (Or.inl rfl)) jgs0))))
    (jss_cons (js_for PassesOwn.never rfl (ji_of (je_var (pv 0))) (jg_name (i := 3) sc_units_sum.nd rfl (Or.inl rfl)) (jss_one (js_asg (je_call (ok_in_least_terms T) (hr.mono (by decide)) hgd rfl T.m_in_least_terms T.F_in_least_terms.kp (b_in_least_terms T) (fun _ => passAt0) (@xok0 _ _ _) (ja_cons (je_bin (jo_add mok0) (je_bin jo_mulI (je_var (pv 1)) (je_var (pv 3))) (je_var (pv 2))) (ja_cons (je_bin jo_mulI (je_var (pv 2)) (je_var (pv 3))) ja_nil))) (jg_tup rfl (jgs1 (jg_name (i := 1) sc_units_sum.nd rfl (Or.inl rfl)) (jgs1 (jg_name (i := 2) sc_units_sum.nd rfl (Or.inl rfl)) jgs0))))))
    (jss_one (js_ret (je_tup (ja_cons (je_var (pv 1)) (ja_cons (je_var (pv 2)) ja_nil)))))))
theorem ok_units_sum {P : Program} {w : World} {K : PySem.W.Frag} {mg : Str → Option Value} {base : Heap} (T : Top K mg) : FnG P w K mg base CX0 2 T.f_units_sum T.fd_units_sum ["units"] (spOf K c_units_sum) :=
  fn_ok0 (k := 1) T.F_units_sum sc_units_sum ari_units_sum (fun cdv A outer s H E G hgd hr => d_units_sum T hgd hr) (w_units_sum T.cl)
theorem d_l_pick {P : Program} {w : World} {K : PySem.W.Frag} {mg : Str → Option Value} {base : Heap} {f : Addr} {cdv : Value} {A : Around} {outer : List Env} {s : Shared} {H : Hp} {E : XK} {G : Gn} (T : Top K mg) (hgd : A.guards = some [])
    (hr : Room 1 (A.deeper (envOfC "_law_pick" (defScope s_l_pick) s.heap.objs.size f cdv))) :
    JSs (cxOf CX0 P w K mg base N_l_pick "_law_pick" (defScope s_l_pick) f cdv A outer s H E).nox G (defBody s_l_pick) (a_l_pick T.cl fun p => G.H0 p = none) :=
    (jss_one (js_ret (je_ix jx_seq (je_var (pv 1)) (je_call (ok_l_draw T) (hr.mono (by decide)) hgd rfl T.m_l_draw T.F_l_draw.kp (b_l_draw T) (fun _ => passAt0) (@xok0 _ _ _) (ja_cons (je_var (pv 0)) (ja_cons (je_callB jc_len rfl T.n_len (by decide +kernel) (ja_cons (je_var (pv 1)) ja_nil)) ja_nil))) (fun _ _ => rfl))))
theorem ok_l_pick {P : Program} {w : World} {K : PySem.W.Frag} {mg : Str → Option Value} {base : Heap} (T : Top K mg) : FnG P w K mg base CX0 2 T.f_l_pick T.fd_l_pick ["bag", "some"] (spOf K c_l_pick) :=
  fn_ok0 (k := 1) T.F_l_pick sc_l_pick ari_l_pick (fun cdv A outer s H E G hgd hr => d_l_pick T hgd hr) (w_l_pick T.cl)
theorem d_l_great {P : Program} {w : World} {K : PySem.W.Frag} {mg : Str → Option Value} {base : Heap} {f : Addr} {cdv : Value} {A : Around} {outer : List Env} {s : Shared} {H : Hp} {E : XK} {G : Gn} (T : Top K mg) (hgd : A.guards = some [])
    (hr : Room 1 (A.deeper (envOfC "_law_great" (defScope s_l_great) s.heap.objs.size f cdv))) :
    JSs (cxOf CX0 P w K mg base N_l_great "_law_great" (defScope s_l_great) f cdv A outer s H E).nox G (defBody s_l_great) (a_l_great T.cl fun p => G.H0 p = none) :=
    (jss_cons (js_set (i := 2) sc_l_great.nd rfl (Or.inl rfl) (je_bin jo_mulI (je_call (ok_l_draw T) (hr.mono (by decide)) hgd rfl T.m_l_draw T.F_l_draw.kp (b_l_draw T) (fun _ => passAt0) (@xok0 _ _ _) (ja_cons (je_var (pv 0)) (ja_cons (je_bin jo_pow je_int je_int) ja_nil))) (je_bin jo_div (je_var (pv 1)) (je_bin jo_pow je_int je_int))))
    (jss_cons (js_set (i := 2) sc_l_great.nd rfl (Or.inl rfl) (je_bin (jo_add mok0) (je_bin (jo_add mok0) (je_var (pv 2)) (je_bin jo_mulI (je_call (ok_l_draw T) (hr.mono (by decide)) hgd rfl T.m_l_draw T.F_l_draw.kp (b_l_draw T) (fun _ => passAt0) (@xok0 _ _ _) (ja_cons (je_var (pv 0)) (ja_cons (je_bin jo_pow je_int je_int) ja_nil))) (je_bin (jo_add mok0) (je_bin jo_div (je_var (pv 1)) (je_bin jo_pow je_int je_int)) je_int))) (je_call (ok_l_draw T) (hr.mono (by decide)) hgd rfl T.m_l_draw T.F_l_draw.kp (b_l_draw T) (fun _ => passAt0) (@xok0 _ _ _) (ja_cons (je_var (pv 0)) (ja_cons (je_bin jo_pow je_int je_int) ja_nil)))))
    (jss_one (js_ret (je_bin jo_mod (je_callTy jc_int rfl T.n_int (by decide +kernel) (ja_cons (je_var (pv 2)) ja_nil)) (je_var (pv 1)))))))
theorem ok_l_great {P : Program} {w : World} {K : PySem.W.Frag} {mg : Str → Option Value} {base : Heap} (T : Top K mg) : FnG P w K mg base CX0 2 T.f_l_great T.fd_l_great ["bag", "below"] (spOf K c_l_great) :=
  fn_ok0 (k := 1) T.F_l_great sc_l_great ari_l_great (fun cdv A outer s H E G hgd hr => d_l_great T hgd hr) (w_l_great T.cl)
theorem d_l_add {P : Program} {w : World} {K : PySem.W.Frag} {mg : Str → Option Value} {base : Heap} {f : Addr} {cdv : Value} {A : Around} {outer : List Env} {s : Shared} {H : Hp} {E : XK} {G : Gn} (T : Top K mg) (hgd : A.guards = some [])
    (hr : Room 1 (A.deeper (envOfC "_law_add" (defScope s_l_add) s.heap.objs.size f cdv))) :
    JSs (cxOf CX0 P w K mg base N_l_add "_law_add" (defScope s_l_add) f cdv A outer s H E).nox G (defBody s_l_add) (a_l_add T.cl fun p => G.H0 p = none) :=
    (jss_cons (js_set (i := 2) sc_l_add.nd rfl (Or.inl rfl) (je_call (ok_l_gcd T) (hr.mono (by decide)) hgd rfl T.m_l_gcd T.F_l_gcd.kp (b_l_gcd T) (fun _ => passAt0) (@xok0 _ _ _) (ja_cons (je_ix jx_seq (je_var (pv 0)) je_int (fun _ _ => rfl)) (ja_cons (je_ix jx_seq (je_var (pv 1)) je_int (fun _ _ => rfl)) ja_nil))))
    (jss_cons (js_set (i := 3) sc_l_add.nd rfl (Or.inl rfl) (je_bin (jo_add mok0) (je_bin jo_mulI (je_ix jx_seq (je_var (pv 0)) je_int (fun _ _ => rfl)) (je_bin jo_div (je_ix jx_seq (je_var (pv 1)) je_int (fun _ _ => rfl)) (je_var (pv 2)))) (je_bin jo_mulI (je_ix jx_seq (je_var (pv 1)) je_int (fun _ _ => rfl)) (je_bin jo_div (je_ix jx_seq (je_var (pv 0)) je_int (fun _ _ => rfl)) (je_var (pv 2))))))
    (jss_cons (js_set (i := 4) sc_l_add.nd rfl (Or.inl rfl) (je_call (ok_l_gcd T) (hr.mono (by decide)) hgd rfl T.m_l_gcd T.F_l_gcd.kp (b_l_gcd T) (fun _ => passAt0) (@xok0 _ _ _) (ja_cons (je_callB jc_abs rfl T.n_abs (by decide +kernel) (ja_cons (je_var (pv 3)) ja_nil)) (ja_cons (je_var (pv 2)) ja_nil))))
    (jss_one (js_ret (je_tup (ja_cons (je_bin jo_div (je_var (pv 3)) (je_var (pv 4))) (ja_cons (je_bin jo_mulI (je_bin jo_div (je_ix jx_seq (je_var (pv 0)) je_int (fun _ _ => rfl)) (je_var (pv 2))) (je_bin jo_div (je_ix jx_seq (je_var (pv 1)) je_int (fun _ _ => rfl)) (je_var (pv 4)))) ja_nil))))))))
theorem ok_l_add {P : Program} {w : World} {K : PySem.W.Frag} {mg : Str → Option Value} {base : Heap} (T : Top K mg) : FnG P w K mg base CX0 2 T.f_l_add T.fd_l_add ["one", "other"] (spOf K c_l_add) :=
  fn_ok0 (k := 1) T.F_l_add sc_l_add ari_l_add (fun cdv A outer s H E G hgd hr => d_l_add T hgd hr) (w_l_add T.cl)
theorem d_l_least {P : Program} {w : World} {K : PySem.W.Frag} {mg : Str → Option Value} {base : Heap} {f : Addr} {cdv : Value} {A : Around} {outer : List Env} {s : Shared} {H : Hp} {E : XK} {G : Gn} (T : Top K mg) (hgd : A.guards = some [])
    (hr : Room 1 (A.deeper (envOfC "_law_least" (defScope s_l_least) s.heap.objs.size f cdv))) :
    JSs (cxOf CX0 P w K mg base N_l_least "_law_least" (defScope s_l_least) f cdv A outer s H E).nox G (defBody s_l_least) (a_l_least T.cl fun p => G.H0 p = none) :=
    (jss_cons (js_set (i := 2) sc_l_least.nd rfl (Or.inl rfl) (je_call (ok_l_gcd T) (hr.mono (by decide)) hgd rfl T.m_l_gcd T.F_l_gcd.kp (b_l_gcd T) (fun _ => passAt0) (@xok0 _ _ _) (ja_cons (je_var (pv 0)) (ja_cons (je_var (pv 1)) ja_nil))))
    (jss_one (js_ret (je_tup (ja_cons (je_bin jo_div (je_var (pv 0)) (je_var (pv 2))) (ja_cons (je_bin jo_div (je_var (pv 1)) (je_var (pv 2))) ja_nil))))))
theorem ok_l_least {P : Program} {w : World} {K : PySem.W.Frag} {mg : Str → Option Value} {base : Heap} (T : Top K mg) : FnG P w K mg base CX0 2 T.f_l_least T.fd_l_least ["x", "y"] (spOf K c_l_least) :=
  fn_ok0 (k := 1) T.F_l_least sc_l_least ari_l_least (fun cdv A outer s H E G hgd hr => d_l_least T hgd hr) (w_l_least T.cl)
theorem d_l_shape {P : Program} {w : World} {K : PySem.W.Frag} {mg : Str → Option Value} {base : Heap} {f : Addr} {cdv : Value} {A : Around} {outer : List Env} {s : Shared} {H : Hp} {E : XK} {G : Gn} (T : Top K mg) (hgd : A.guards = some [])
    (hr : Room 1 (A.deeper (envOfC "_law_shape" (defScope s_l_shape) s.heap.objs.size f cdv))) :
    JSs (cxOf CX0 P w K mg base N_l_shape "_law_shape" (defScope s_l_shape) f cdv A outer s H E).nox G (defBody s_l_shape) (a_l_shape T.cl fun p => G.H0 p = none) :=
    (jss_cons (js_if (jw_pt (jw_or (jt_not (jt_of (je_callB jc_isi rfl T.n_isinstance (by decide +kernel) (ja_cons (je_var (pv 0)) (ja_cons (je_raw (v := .ty "tuple") (pe_bltn rfl T.n_tuple (by decide +kernel) rfl)) ja_nil))))) (jw_or1 (jt_cmp jo_gt (je_callB jc_len rfl T.n_len (by decide +kernel) (ja_cons (je_var (pv 0)) ja_nil)) je_int (nomark _))))) (jss_one (js_ret je_str)) jss_nil)
    (jss_cons (js_for PassesOwn.never rfl (ji_of (je_var (pv 0))) (jg_name (i := 1) sc_l_shape.nd rfl (Or.inl rfl)) (jss_one (js_if (jw_pt (jw_or (jt_not (jt_of (je_callB jc_isi rfl T.n_isinstance (by decide +kernel) (ja_cons (je_var (pv 1)) (ja_cons (je_raw (v := .ty "int") (pe_bltn rfl T.n_int (by decide +kernel) rfl)) ja_nil))))) (jw_or (jt_of (je_callB jc_isi rfl T.n_isinstance (by decide +kernel) (ja_cons (je_var (pv 1)) (ja_cons (je_raw (v := .ty "bool") (pe_bltn rfl T.n_bool (by decide +kernel) rfl)) ja_nil)))) (jw_or (jt_cmp jo_lt (je_var (pv 1)) je_int (nomark _)) (jw_or1 (jt_cmp jo_gt (je_var (pv 1)) (je_call0 (ok_l_most T) (hr.mono (by decide)) hgd rfl T.m_l_most T.F_l_most.kp (b_l_most T) (fun _ => passAt0) (@xok0 _ _ _)) (nomark _))))))) (jss_one (js_ret je_str)) jss_nil)))
    (jss_cons (js_for PassesOwn.never rfl (ji_range2 rfl T.n_range (ja_cons je_int (ja_cons (je_callB jc_len rfl T.n_len (by decide +kernel) (ja_cons (je_var (pv 0)) ja_nil)) ja_nil))) (jg_name (i := 2) sc_l_shape.nd rfl (Or.inl rfl)) (jss_one (js_if (jt_cmp jo_le (je_ix jx_seq (je_var (pv 0)) (je_var (pv 2)) (fun _ _ => rfl)) (je_ix jx_seq (je_var (pv 0)) (je_bin jo_sub (je_var (pv 2)) je_int) (fun _ _ => rfl)) (nomark _)) (jss_one (js_ret (je_tup (ja_cons je_str (ja_cons (je_var (pv 2)) ja_nil))))) jss_nil)))
    (jss_one (js_ret je_non)))))
theorem ok_l_shape {P : Program} {w : World} {K : PySem.W.Frag} {mg : Str → Option Value} {base : Heap} (T : Top K mg) : FnG P w K mg base CX0 2 T.f_l_shape T.fd_l_shape ["value"] (spOf K c_l_shape) :=
  fn_ok0 (k := 1) T.F_l_shape sc_l_shape ari_l_shape (fun cdv A outer s H E G hgd hr => d_l_shape T hgd hr) (w_l_shape T.cl)
theorem d_l_split {P : Program} {w : World} {K : PySem.W.Frag} {mg : Str → Option Value} {base : Heap} {f : Addr} {cdv : Value} {A : Around} {outer : List Env} {s : Shared} {H : Hp} {E : XK} {G : Gn} (T : Top K mg) (hgd : A.guards = some [])
    (hr : Room 1 (A.deeper (envOfC "_law_split" (defScope s_l_split) s.heap.objs.size f cdv))) :
    JSs (cxOf CX0 P w K mg base N_l_split "_law_split" (defScope s_l_split) f cdv A outer s H E).nox G (defBody s_l_split) (a_l_split T.cl fun p => G.H0 p = none) :=
    (jss_one (js_tryAs (i := 2) (cls := .ref T.cl.Unfit) rfl rfl sc_l_split.nd rfl rfl ⟨rfl, by decide, Or.inl T.g_BaseError⟩ T.ex_Unfit_BaseError (fun G' Ξ1 W pn xe hg hx tk po => (jss_one (js_ret (je_if (jt_of (je_var (pv 1))) (je_callK0 (ks := ["n"]) (ok_split_unit T) (hr.mono (by decide)) hgd rfl T.m_split_unit T.F_split_unit.kp (kargs T.F_split_unit (ps := ["n"]) (ks := ["n"]) (n := 0) (π := [0]) fun _ _ _ _ _ _ us ws h1 h2 => match us, ws, h1, h2 with | [], [_], _, _ => rfl) (by decide) (fun σ => L2N.passAt tk σ) hx (jk_cons (je_var (pv 0)) jk_nil)) (je_call (ok_split_unit T) (hr.mono (by decide)) hgd rfl T.m_split_unit T.F_split_unit.kp (b_split_unit T) (fun σ => L2N.passAt tk σ) hx (ja_cons (je_var (pv 0)) ja_nil)))))) (fun e1 oe pn hz hf => (jss_one (js_ret (je_lst mok0 (ja_cons (je_callE (ok_l_is_lone T) ⟨(hr.mono (j := 1) (by decide)).dp, (hr.mono (j := 1) (by decide)).un⟩ hgd (hot_of hz hf rfl) List.mem_cons_self hz rfl T.m_l_is_lone T.F_l_is_lone.kp (b_l_is_lone T) (je_var (pv 2))) ja_nil)))))))
theorem ok_l_split {P : Program} {w : World} {K : PySem.W.Frag} {mg : Str → Option Value} {base : Heap} (T : Top K mg) : FnG P w K mg base CX0 2 T.f_l_split T.fd_l_split ["n", "is_named"] (spOf K c_l_split) :=
  fn_ok0 (k := 1) T.F_l_split sc_l_split ari_l_split (fun cdv A outer s H E G hgd hr => d_l_split T hgd hr) (w_l_split T.cl)
theorem d_units_error {P : Program} {w : World} {K : PySem.W.Frag} {mg : Str → Option Value} {base : Heap} {f : Addr} {cdv : Value} {A : Around} {outer : List Env} {s : Shared} {H : Hp} {E : XK} {G : Gn} (T : Top K mg) (hgd : A.guards = some [])
    (hr : Room 2 (A.deeper (envOfC "units_error" (defScope s_units_error) s.heap.objs.size f cdv))) :
    JSs (cxOf CX0 P w K mg base N_units_error "units_error" (defScope s_units_error) f cdv A outer s H E).nox G (defBody s_units_error) (a_units_error T.cl fun p => G.H0 p = none) :=
    (jss_cons (js_if (jw_pt (jw_or (jt_not (jt_of (je_callB jc_isi rfl T.n_isinstance (by decide +kernel) (ja_cons (je_var (pv 2)) (ja_cons (je_raw (v := .ty "tuple") (pe_bltn rfl T.n_tuple (by decide +kernel) rfl)) ja_nil))))) (jw_or1 (jt_cmp jo_gt (je_callB jc_len rfl T.n_len (by decide +kernel) (ja_cons (je_var (pv 2)) ja_nil)) (je_c (v := .int 20) (pe_glob rfl T.m_MAX_UNITS ⟨_, rfl⟩) (fun _ => .int _)) (nomark _))))) (jss_one (js_ret je_str)) jss_nil)
    (jss_cons (js_if (jt_not (jt_of (je_callB (jc_all rfl) rfl T.n_all (by decide +kernel) (ja_cons (lc2 (je_lc mok0 rfl sc_units_error.nd (ji_of (je_var (pv 2))) (blkOk_by (own := [("item", 5)]) (N := N_units_error) (sc := defScope s_units_error) (by decide +kernel)) (fun _ => (jgo_name (i := 5) (by first | decide | simp) sc_units_error.nd rfl (Or.inl rfl))) (fun _ => jts_nil) (fun _ => (je_call (ok_is_within T) (hr.mono (by decide)) hgd rfl T.m_is_within T.F_is_within.kp (b_is_within T) (fun _ => passAt0) (@xok0 _ _ _) (ja_cons (je_var (pv 5)) (ja_cons je_int (ja_cons (je_c (v := .int 10000000000000000000000000000000000000000000000000000000000000000000000000000000000000000000000000000000000000000000000000000000000000000000000000000000000000000) (pe_glob rfl T.m_MAX_UNIT_ITEM ⟨_, rfl⟩) (fun _ => .int _)) ja_nil))))) (own := [("item", 5)]))) ja_nil)))) (jss_one (js_ret je_str)) jss_nil)
    (jss_cons (js_for PassesOwn.never rfl (ji_range2 rfl T.n_range (ja_cons je_int (ja_cons (je_callB jc_len rfl T.n_len (by decide +kernel) (ja_cons (je_var (pv 2)) ja_nil)) ja_nil))) (jg_name (i := 3) sc_units_error.nd rfl (Or.inl rfl)) (jss_one (js_if (jt_cmp jo_le (je_ix jx_seq (je_var (pv 2)) (je_var (pv 3)) (fun _ _ => rfl)) (je_ix jx_seq (je_var (pv 2)) (je_bin jo_sub (je_var (pv 3)) je_int) (fun _ _ => rfl)) (nomark _)) (jss_one (js_ret (je_tup (ja_cons je_str (ja_cons (je_var (pv 3)) ja_nil))))) jss_nil)))
    (jss_cons (js_set (i := 4) sc_units_error.nd rfl (Or.inl rfl) (je_call (ok_units_sum T) (hr.mono (by decide)) hgd rfl T.m_units_sum T.F_units_sum.kp (b_units_sum T) (fun _ => passAt0) (@xok0 _ _ _) (ja_cons (je_var (pv 2)) ja_nil)))
    (jss_one (js_ret (je_if (jt_cmp (jo_eq hr.units) (je_var (pv 4)) (je_call (ok_in_least_terms T) (hr.mono (by decide)) hgd rfl T.m_in_least_terms T.F_in_least_terms.kp (b_in_least_terms T) (fun _ => passAt0) (@xok0 _ _ _) (ja_cons (je_var (pv 0)) (ja_cons (je_var (pv 1)) ja_nil))) (nomark _)) je_non (je_tup (ja_cons je_str (ja_cons (je_var (pv 4)) ja_nil))))))))))
theorem ok_units_error {P : Program} {w : World} {K : PySem.W.Frag} {mg : Str → Option Value} {base : Heap} (T : Top K mg) : FnG P w K mg base CX0 3 T.f_units_error T.fd_units_error ["x", "y", "value"] (spOf K c_units_error) :=
  fn_ok0 (k := 2) T.F_units_error sc_units_error ari_units_error (fun cdv A outer s H E G hgd hr => d_units_error T hgd hr) (w_units_error T.cl)
theorem d_l_sum {P : Program} {w : World} {K : PySem.W.Frag} {mg : Str → Option Value} {base : Heap} {f : Addr} {cdv : Value} {A : Around} {outer : List Env} {s : Shared} {H : Hp} {E : XK} {G : Gn} (T : Top K mg) (hgd : A.guards = some [])
    (hr : Room 2 (A.deeper (envOfC "_law_sum" (defScope s_l_sum) s.heap.objs.size f cdv))) :
    JSs (cxOf CX0 P w K mg base N_l_sum "_law_sum" (defScope s_l_sum) f cdv A outer s H E).nox G (defBody s_l_sum) (a_l_sum T.cl fun p => G.H0 p = none) :=
    (jss_cons (js_set (i := 1) sc_l_sum.nd rfl (Or.inl rfl) (je_tup (ja_cons je_int (ja_cons je_int ja_nil))))
    (jss_cons (js_for PassesOwn.never rfl (ji_of (je_var (pv 0))) (jg_name (i := 2) sc_l_sum.nd rfl (Or.inl rfl)) (jss_one (js_set (i := 1) sc_l_sum.nd rfl (Or.inl rfl) (je_call (ok_l_add T) (hr.mono (by decide)) hgd rfl T.m_l_add T.F_l_add.kp (b_l_add T) (fun _ => passAt0) (@xok0 _ _ _) (ja_cons (je_var (pv 1)) (ja_cons (je_tup (ja_cons je_int (ja_cons (je_var (pv 2)) ja_nil))) ja_nil))))))
    (jss_one (js_ret (je_var (pv 1))))))
theorem ok_l_sum {P : Program} {w : World} {K : PySem.W.Frag} {mg : Str → Option Value} {base : Heap} (T : Top K mg) : FnG P w K mg base CX0 3 T.f_l_sum T.fd_l_sum ["units"] (spOf K c_l_sum) :=
  fn_ok0 (k := 2) T.F_l_sum sc_l_sum ari_l_sum (fun cdv A outer s H E G hgd hr => d_l_sum T hgd hr) (w_l_sum T.cl)
theorem d_l_fraction {P : Program} {w : World} {K : PySem.W.Frag} {mg : Str → Option Value} {base : Heap} {f : Addr} {cdv : Value} {A : Around} {outer : List Env} {s : Shared} {H : Hp} {E : XK} {G : Gn} (T : Top K mg) (hgd : A.guards = some [])
    (hr : Room 2 (A.deeper (envOfC "_law_fraction" (defScope s_l_fraction) s.heap.objs.size f cdv))) :
    JSs (cxOf CX0 P w K mg base N_l_fraction "_law_fraction" (defScope s_l_fraction) f cdv A outer s H E).nox G (defBody s_l_fraction) (a_l_fraction T.cl fun p => G.H0 p = none) :=
    (jss_cons (js_set (i := 1) sc_l_fraction.nd rfl (Or.inl rfl) (je_call (ok_l_pick T) (hr.mono (by decide)) hgd rfl T.m_l_pick T.F_l_pick.kp (b_l_pick T) (fun _ => passAt0) (@xok0 _ _ _) (ja_cons (je_var (pv 0)) (ja_cons (je_lst mok0 (ja_cons (je_bin (jo_add mok0) je_int (je_call (ok_l_draw T) (hr.mono (by decide)) hgd rfl T.m_l_draw T.F_l_draw.kp (b_l_draw T) (fun _ => passAt0) (@xok0 _ _ _) (ja_cons (je_var (pv 0)) (ja_cons je_int ja_nil)))) (ja_cons (je_bin (jo_add mok0) je_int (je_call (ok_l_draw T) (hr.mono (by decide)) hgd rfl T.m_l_draw T.F_l_draw.kp (b_l_draw T) (fun _ => passAt0) (@xok0 _ _ _) (ja_cons (je_var (pv 0)) (ja_cons je_int ja_nil)))) (ja_cons (je_bin jo_sub je_int (je_call (ok_l_draw T) (hr.mono (by decide)) hgd rfl T.m_l_draw T.F_l_draw.kp (b_l_draw T) (fun _ => passAt0) (@xok0 _ _ _) (ja_cons (je_var (pv 0)) (ja_cons je_int ja_nil)))) (ja_cons je_int (ja_cons je_int ja_nil)))))) ja_nil))))
    (jss_one (js_ret (je_tup (ja_cons (je_call (ok_l_pick T) (hr.mono (by decide)) hgd rfl T.m_l_pick T.F_l_pick.kp (b_l_pick T) (fun _ => passAt0) (@xok0 _ _ _) (ja_cons (je_var (pv 0)) (ja_cons (je_lst mok0 (ja_cons (je_bin (jo_add mok0) je_int (je_call (ok_l_draw T) (hr.mono (by decide)) hgd rfl T.m_l_draw T.F_l_draw.kp (b_l_draw T) (fun _ => passAt0) (@xok0 _ _ _) (ja_cons (je_var (pv 0)) (ja_cons (je_var (pv 1)) ja_nil)))) (ja_cons (je_bin (jo_add mok0) je_int (je_call (ok_l_draw T) (hr.mono (by decide)) hgd rfl T.m_l_draw T.F_l_draw.kp (b_l_draw T) (fun _ => passAt0) (@xok0 _ _ _) (ja_cons (je_var (pv 0)) (ja_cons (je_var (pv 1)) ja_nil)))) (ja_cons (je_var (pv 1)) (ja_cons je_int (ja_cons (je_callB (jc_max2 rfl) rfl T.n_max (by decide +kernel) (ja_cons je_int (ja_cons (je_bin jo_sub (je_var (pv 1)) je_int) ja_nil))) ja_nil)))))) ja_nil))) (ja_cons (je_var (pv 1)) ja_nil))))))
theorem ok_l_fraction {P : Program} {w : World} {K : PySem.W.Frag} {mg : Str → Option Value} {base : Heap} (T : Top K mg) : FnG P w K mg base CX0 3 T.f_l_fraction T.fd_l_fraction ["bag"] (spOf K c_l_fraction) :=
  fn_ok0 (k := 2) T.F_l_fraction sc_l_fraction ari_l_fraction (fun cdv A outer s H E G hgd hr => d_l_fraction T hgd hr) (w_l_fraction T.cl)
theorem d_l_put_apart {P : Program} {w : World} {K : PySem.W.Frag} {mg : Str → Option Value} {base : Heap} {f : Addr} {cdv : Value} {A : Around} {outer : List Env} {s : Shared} {H : Hp} {E : XK} {G : Gn} (T : Top K mg) (hgd : A.guards = some [])
    (hr : Room 2 (A.deeper (envOfC "_law_put_apart" (defScope s_l_put_apart) s.heap.objs.size f cdv))) :
    JSs (cxOf CX0 P w K mg base N_l_put_apart "_law_put_apart" (defScope s_l_put_apart) f cdv A outer s H E).nox G (defBody s_l_put_apart) (a_l_put_apart T.cl fun p => G.H0 p = none) :=
    (jss_cons (js_set (i := 3) sc_l_put_apart.nd rfl (Or.inr rfl) (je_callTy (jc_listOf mok0) rfl T.n_list (by decide +kernel) (ja_cons (je_var (pv 1)) ja_nil)))
    (jss_cons (js_for PassesOwn.never rfl (ji_range1 rfl T.n_range (ja_cons je_int ja_nil)) (jg_name (i := 4) sc_l_put_apart.nd rfl (Or.inl rfl)) (jss_cons (lc2s (js_setLc mok0 rfl sc_l_put_apart.nd rfl rfl (sw_true rfl rfl rfl (by decide +kernel)) (ji_of (je_var (pv 3))) (blkOk_by (own := [("a", 6)]) (N := N_l_put_apart) (sc := defScope s_l_put_apart) (by decide +kernel)) (fun _ => (jgo_name (i := 6) (by first | decide | simp) sc_l_put_apart.nd rfl (Or.inl rfl))) (fun _ => (jts_one (jw_pt (jw_and (jt_cmp jo_gt (je_var (pv 6)) je_int (nomark _)) (jw_and (jt_cmp jo_notin (je_bin (jo_add mok0) (je_var (pv 6)) je_int) (je_var (pv 3)) rfl) (jw_and (jt_cmp jo_notin (je_bin jo_mulI (je_var (pv 6)) (je_bin (jo_add mok0) (je_var (pv 6)) je_int)) (je_var (pv 3)) rfl) (jw_and1 (jt_cmp jo_le (je_bin jo_mulI (je_var (pv 6)) (je_bin (jo_add mok0) (je_var (pv 6)) je_int)) (je_call0 (ok_l_most T) (hr.mono (by decide)) hgd rfl T.m_l_most T.F_l_most.kp (b_l_most T) (fun _ => passAt0) (@xok0 _ _ _)) (nomark _))))))))) (fun _ => (je_var (pv 6))) (own := [("a", 6)])))
    (jss_cons (js_if (jw_pt (jw_or (jt_cmp (jo_eq hr.units) (je_var (pv 5)) (je_lst mok0 ja_nil) (nomark _)) (jw_or1 (jt_cmp jo_ge (je_callB jc_len rfl T.n_len (by decide +kernel) (ja_cons (je_var (pv 3)) ja_nil)) (je_var (pv 2)) (nomark _))))) (jss_one js_break) jss_nil)
    (jss_cons (js_set (i := 6) sc_l_put_apart.nd rfl (Or.inr rfl) (je_join (je_if (jt_cmp (jo_eq hr.units) (je_call (ok_l_draw T) (hr.mono (by decide)) hgd rfl T.m_l_draw T.F_l_draw.kp (b_l_draw T) (fun _ => passAt0) (@xok0 _ _ _) (ja_cons (je_var (pv 0)) (ja_cons je_int ja_nil))) je_int (nomark _)) (je_ix jx_seq (je_var (pv 5)) (je_un ju_neg je_int) (fun _ _ => rfl)) (je_call (ok_l_pick T) (hr.mono (by decide)) hgd rfl T.m_l_pick T.F_l_pick.kp (b_l_pick T) (fun _ => passAt0) (@xok0 _ _ _) (ja_cons (je_var (pv 0)) (ja_cons (je_var (pv 5)) ja_nil))))))
    (jss_one (js_set (i := 3) sc_l_put_apart.nd rfl (Or.inr rfl) (je_callB (jc_sorted mok0) rfl T.n_sorted (by decide +kernel) (ja_cons (je_bin (jo_add mok0) (lc2 (je_lc mok0 rfl sc_l_put_apart.nd (ji_of (je_var (pv 3))) (blkOk_by (own := [("item", 7)]) (N := N_l_put_apart) (sc := defScope s_l_put_apart) (by decide +kernel)) (fun _ => (jgo_name (i := 7) (by first | decide | simp) sc_l_put_apart.nd rfl (Or.inl rfl))) (fun _ => (jts_one (jt_cmp (jo_ne hr.units) (je_var (pv 7)) (je_var (pv 6)) (nomark _)))) (fun _ => (je_var (pv 7))) (own := [("item", 7)]))) (je_lst mok0 (ja_cons (je_bin (jo_add mok0) (je_var (pv 6)) je_int) (ja_cons (je_bin jo_mulI (je_var (pv 6)) (je_bin (jo_add mok0) (je_var (pv 6)) je_int)) ja_nil)))) ja_nil))))))))
    (jss_one (js_ret (je_callTy jc_tupleOf rfl T.n_tuple (by decide +kernel) (ja_cons (je_var (pv 3)) ja_nil))))))
theorem ok_l_put_apart {P : Program} {w : World} {K : PySem.W.Frag} {mg : Str → Option Value} {base : Heap} (T : Top K mg) : FnG P w K mg base CX0 3 T.f_l_put_apart T.fd_l_put_apart ["bag", "units", "many"] (spOf K c_l_put_apart) :=
  fn_ok0 (k := 2) T.F_l_put_apart sc_l_put_apart ari_l_put_apart (fun cdv A outer s H E G hgd hr => d_l_put_apart T hgd hr) (w_l_put_apart T.cl)
theorem d_l_by_divisors {P : Program} {w : World} {K : PySem.W.Frag} {mg : Str → Option Value} {base : Heap} {f : Addr} {cdv : Value} {A : Around} {outer : List Env} {s : Shared} {H : Hp} {E : XK} {G : Gn} (T : Top K mg) (hgd : A.guards = some [])
    (hr : Room 2 (A.deeper (envOfC "_law_by_divisors" (defScope s_l_by_divisors) s.heap.objs.size f cdv))) :
    JSs (cxOf CX0 P w K mg base N_l_by_divisors "_law_by_divisors" (defScope s_l_by_divisors) f cdv A outer s H E).nox G (defBody s_l_by_divisors) (a_l_by_divisors T.cl fun p => G.H0 p = none) :=
    (jss_cons (js_set (i := 1) sc_l_by_divisors.nd rfl (Or.inl rfl) (je_call (ok_l_pick T) (hr.mono (by decide)) hgd rfl T.m_l_pick T.F_l_pick.kp (b_l_pick T) (fun _ => passAt0) (@xok0 _ _ _) (ja_cons (je_var (pv 0)) (ja_cons (je_lst mok0 (ja_cons (je_bin (jo_add mok0) je_int (je_call (ok_l_draw T) (hr.mono (by decide)) hgd rfl T.m_l_draw T.F_l_draw.kp (b_l_draw T) (fun _ => passAt0) (@xok0 _ _ _) (ja_cons (je_var (pv 0)) (ja_cons je_int ja_nil)))) (ja_cons je_int (ja_cons je_int (ja_cons je_int (ja_cons je_int (ja_cons je_int (ja_cons je_int (ja_cons je_int ja_nil))))))))) ja_nil))))
    (jss_cons (js_par2 (i := 2) (j := 3) rfl sc_l_by_divisors.nd rfl rfl (by decide) rfl rfl (ja_cons (je_var (pv 1)) (ja_cons (je_lst mok1 ja_nil) ja_nil)) rfl)
    (jss_cons (js_for PassesOwn.never rfl (ji_range3 rfl T.n_range (ja_cons (je_var (pv 1)) (ja_cons je_int (ja_cons (je_un ju_neg je_int) ja_nil)))) (jg_name (i := 4) sc_l_by_divisors.nd rfl (Or.inl rfl)) (jss_one (js_if (jw_pt (jw_and (jt_cmp (jo_eq hr.units) (je_bin jo_mod (je_callTy jc_int rfl T.n_int (by decide +kernel) (ja_cons (je_var (pv 1)) ja_nil)) (je_var (pv 4))) je_int (nomark _)) (jw_and (jt_cmp jo_le (je_var (pv 4)) (je_var (pv 2)) (nomark _)) (jw_and1 (jw_pt (jw_or (jt_cmp jo_gt (je_call (ok_l_draw T) (hr.mono (by decide)) hgd rfl T.m_l_draw T.F_l_draw.kp (b_l_draw T) (fun _ => passAt0) (@xok0 _ _ _) (ja_cons (je_var (pv 0)) (ja_cons je_int ja_nil))) je_int (nomark _)) (jw_or1 (jw_pt (jw_and (jt_cmp (jo_eq hr.units) (je_var (pv 4)) je_int (nomark _)) (jw_and1 (jt_cmp (jo_eq hr.units) (je_var (pv 3)) (je_lst mok0 ja_nil) (nomark _)))))))))))) (jss_cons (js_expr (je_ml PySem.F.slot_list_append PySem.F.type_list_append jm_append (je_var (pv 3)) (ja_cons (je_bin jo_div (je_var (pv 1)) (je_var (pv 4))) ja_nil)))
    (jss_one (js_set (i := 2) sc_l_by_divisors.nd rfl (Or.inl rfl) (je_bin jo_sub (je_var (pv 2)) (je_var (pv 4)))))) jss_nil)))
    (jss_one (js_retD (je_tup (ja_cons (je_bin jo_sub (je_var (pv 1)) (je_var (pv 2))) (ja_cons (je_var (pv 1)) (ja_cons (je_callTy jc_tupleOf rfl T.n_tuple (by decide +kernel) (ja_cons (je_var (pv 3)) ja_nil)) ja_nil)))))))))
theorem ok_l_by_divisors {P : Program} {w : World} {K : PySem.W.Frag} {mg : Str → Option Value} {base : Heap} (T : Top K mg) : FnG P w K mg base CX0 3 T.f_l_by_divisors T.fd_l_by_divisors ["bag"] (spOf K c_l_by_divisors) :=
  fn_ok0 (k := 2) T.F_l_by_divisors sc_l_by_divisors ari_l_by_divisors (fun cdv A outer s H E G hgd hr => d_l_by_divisors T hgd hr) (w_l_by_divisors T.cl)
theorem d_l_own_units {P : Program} {w : World} {K : PySem.W.Frag} {mg : Str → Option Value} {base : Heap} {f : Addr} {cdv : Value} {A : Around} {outer : List Env} {s : Shared} {H : Hp} {E : XK} {G : Gn} (T : Top K mg) (hgd : A.guards = some [])
    (hr : Room 2 (A.deeper (envOfC "_law_own_units" (defScope s_l_own_units) s.heap.objs.size f cdv))) :
    JSs (cxOf CX0 P w K mg base N_l_own_units "_law_own_units" (defScope s_l_own_units) f cdv A outer s H E).nox G (defBody s_l_own_units) (a_l_own_units T.cl fun p => G.H0 p = none) :=
    (jss_cons (js_set (i := 1) sc_l_own_units.nd rfl (Or.inl rfl) (je_call (ok_l_pick T) (hr.mono (by decide)) hgd rfl T.m_l_pick T.F_l_pick.kp (b_l_pick T) (fun _ => passAt0) (@xok0 _ _ _) (ja_cons (je_var (pv 0)) (ja_cons (je_lst mok0 (ja_cons je_int (ja_cons je_int (ja_cons je_int (ja_cons je_int (ja_cons je_int (ja_cons (je_call (ok_l_draw T) (hr.mono (by decide)) hgd rfl T.m_l_draw T.F_l_draw.kp (b_l_draw T) (fun _ => passAt0) (@xok0 _ _ _) (ja_cons (je_var (pv 0)) (ja_cons je_int ja_nil))) ja_nil))))))) ja_nil))))
    (jss_cons (js_set (i := 2) sc_l_own_units.nd rfl (Or.inl rfl) (je_call (ok_l_pick T) (hr.mono (by decide)) hgd rfl T.m_l_pick T.F_l_pick.kp (b_l_pick T) (fun _ => passAt0) (@xok0 _ _ _) (ja_cons (je_var (pv 0)) (ja_cons (je_lst mok0 (ja_cons je_int (ja_cons je_int (ja_cons (je_bin jo_pow je_int je_int) (ja_cons (je_bin jo_pow je_int je_int) (ja_cons (je_call0 (ok_l_most T) (hr.mono (by decide)) hgd rfl T.m_l_most T.F_l_most.kp (b_l_most T) (fun _ => passAt0) (@xok0 _ _ _)) (ja_cons (je_call0 (ok_l_most T) (hr.mono (by decide)) hgd rfl T.m_l_most T.F_l_most.kp (b_l_most T) (fun _ => passAt0) (@xok0 _ _ _)) ja_nil))))))) ja_nil))))
    (jss_cons (js_par2 (i := 3) (j := 4) rfl sc_l_own_units.nd rfl rfl (by decide) rfl rfl (ja_cons (je_lst mok1 ja_nil) (ja_cons je_int ja_nil)) rfl)
    (jss_cons (js_for PassesOwn.never rfl (ji_range1 rfl T.n_range (ja_cons (je_var (pv 1)) ja_nil)) (jg_name (i := 5) sc_l_own_units.nd rfl (Or.inl rfl)) (jss_cons (js_set (i := 4) sc_l_own_units.nd rfl (Or.inl rfl) (je_bin (jo_add mok0) (je_bin (jo_add mok0) (je_var (pv 4)) je_int) (je_call (ok_l_great T) (hr.mono (by decide)) hgd rfl T.m_l_great T.F_l_great.kp (b_l_great T) (fun _ => passAt0) (@xok0 _ _ _) (ja_cons (je_var (pv 0)) (ja_cons (je_bin jo_div (je_var (pv 2)) (je_var (pv 1))) ja_nil)))))
    (jss_one (js_expr (je_ml PySem.F.slot_list_append PySem.F.type_list_append jm_append (je_var (pv 3)) (ja_cons (je_var (pv 4)) ja_nil))))))
    (jss_cons (js_if (jw_pt (jw_and (jt_cmp (jo_ne hr.units) (je_var (pv 3)) (je_lst mok0 ja_nil) (nomark _)) (jw_and1 (jt_cmp (jo_eq hr.units) (je_call (ok_l_draw T) (hr.mono (by decide)) hgd rfl T.m_l_draw T.F_l_draw.kp (b_l_draw T) (fun _ => passAt0) (@xok0 _ _ _) (ja_cons (je_var (pv 0)) (ja_cons je_int ja_nil))) je_int (nomark _))))) (jss_one (js_setAt (by intro _ _ _ p q r; exact ps_asg p (pg_sub q r set_list)) (je_call0 (ok_l_most T) (hr.mono (by decide)) hgd rfl T.m_l_most T.F_l_most.kp (b_l_most T) (fun _ => passAt0) (@xok0 _ _ _)) (je_var (pv 3)) (je_un ju_neg je_int))) jss_nil)
    (jss_one (js_retD (je_callTy jc_tupleOf rfl T.n_tuple (by decide +kernel) (ja_cons (je_var (pv 3)) ja_nil)))))))))
theorem ok_l_own_units {P : Program} {w : World} {K : PySem.W.Frag} {mg : Str → Option Value} {base : Heap} (T : Top K mg) : FnG P w K mg base CX0 3 T.f_l_own_units T.fd_l_own_units ["bag"] (spOf K c_l_own_units) :=
  fn_ok0 (k := 2) T.F_l_own_units sc_l_own_units ari_l_own_units (fun cdv A outer s H E G hgd hr => d_l_own_units T hgd hr) (w_l_own_units T.cl)
theorem d_l_odd {P : Program} {w : World} {K : PySem.W.Frag} {mg : Str → Option Value} {base : Heap} {f : Addr} {cdv : Value} {A : Around} {outer : List Env} {s : Shared} {H : Hp} {E : XK} {G : Gn} (T : Top K mg) (hgd : A.guards = some [])
    (hr : Room 2 (A.deeper (envOfC "_law_odd" (defScope s_l_odd) s.heap.objs.size f cdv))) :
    JSs (cxOf CX0 P w K mg base N_l_odd "_law_odd" (defScope s_l_odd) f cdv A outer s H E).nox G (defBody s_l_odd) (a_l_odd T.cl fun p => G.H0 p = none) :=
    (jss_cons (js_set (i := 2) sc_l_odd.nd rfl (Or.inl rfl) (je_call0 (ok_l_most T) (hr.mono (by decide)) hgd rfl T.m_l_most T.F_l_most.kp (b_l_most T) (fun _ => passAt0) (@xok0 _ _ _)))
    (jss_one (js_ret (je_call (ok_l_pick T) (hr.mono (by decide)) hgd rfl T.m_l_pick T.F_l_pick.kp (b_l_pick T) (fun _ => passAt0) (@xok0 _ _ _) (ja_cons (je_var (pv 0)) (ja_cons (je_lst mok0 (ja_cons je_int (ja_cons (je_un ju_neg (je_var (pv 1))) (ja_cons je_bl (ja_cons je_bl (ja_cons je_non (ja_cons je_str (ja_cons (je_callTy jc_strI rfl T.n_str (by decide +kernel) (ja_cons (je_var (pv 1)) ja_nil)) (ja_cons (je_tup (ja_cons (je_var (pv 1)) ja_nil)) (ja_cons (je_lst mok0 (ja_cons (je_var (pv 1)) ja_nil)) (ja_cons (je_dispD (jp_cons (k := (.inr "a")) pe_str (je_var (pv 1)) jp_nil) rfl rfl (fun z => by cases z) (by decide)) (ja_cons (je_bin (jo_add mok0) (je_var (pv 2)) je_int) (ja_cons (je_bin jo_mulI (je_bin jo_mulI (je_var (pv 2)) (je_var (pv 2))) (je_bin jo_pow je_int je_int)) (ja_cons (je_un ju_neg je_int) ja_nil)))))))))))))) ja_nil))))))
theorem ok_l_odd {P : Program} {w : World} {K : PySem.W.Frag} {mg : Str → Option Value} {base : Heap} (T : Top K mg) : FnG P w K mg base CX0 3 T.f_l_odd T.fd_l_odd ["bag", "item"] (spOf K c_l_odd) :=
  fn_ok0 (k := 2) T.F_l_odd sc_l_odd ari_l_odd (fun cdv A outer s H E G hgd hr => d_l_odd T hgd hr) (w_l_odd T.cl)
theorem d_l_like {P : Program} {w : World} {K : PySem.W.Frag} {mg : Str → Option Value} {base : Heap} {f : Addr} {cdv : Value} {A : Around} {outer : List Env} {s : Shared} {H : Hp} {E : XK} {G : Gn} (T : Top K mg) {Cr : Con} {j k : Nat} (ih : FnG P w K mg base CX0 j T.f_l_like T.fd_l_like ["found", "due"] (spOf K Cr)) (hj : j ≤ k) (h0 : 0 ≤ k) (hgd : A.guards = some [])
    (hr : Room k (A.deeper (envOfC "_law_like" (defScope s_l_like) s.heap.objs.size f cdv))) :
    JSs (cxOf CX0 P w K mg base N_l_like "_law_like" (defScope s_l_like) f cdv A outer s H E).nox G (defBody s_l_like) (a_l_like Cr T.cl fun p => G.H0 p = none) :=
    (jss_cons (js_if (jt_cmp jo_is (je_var (pv 1)) je_non (nomark _)) (jss_one (js_ret (je_cmp jo_is (je_var (pv 0)) je_non (nomark _)))) jss_nil)
    (jss_cons (js_if (jt_of (je_callB jc_isi rfl T.n_isinstance (by decide +kernel) (ja_cons (je_var (pv 1)) (ja_cons (je_raw (v := .ty "tuple") (pe_bltn rfl T.n_tuple (by decide +kernel) rfl)) ja_nil)))) (jss_cons (js_if (jw_pt (jw_or (jt_not (jt_of (je_callB jc_isi rfl T.n_isinstance (by decide +kernel) (ja_cons (je_var (pv 0)) (ja_cons (je_raw (v := .ty "tuple") (pe_bltn rfl T.n_tuple (by decide +kernel) rfl)) ja_nil))))) (jw_or1 (jt_cmp (jo_ne hr.units) (je_callB jc_len rfl T.n_len (by decide +kernel) (ja_cons (je_var (pv 0)) ja_nil)) (je_callB jc_len rfl T.n_len (by decide +kernel) (ja_cons (je_var (pv 1)) ja_nil)) (nomark _))))) (jss_one (js_ret je_bl)) jss_nil)
    (jss_one (js_ret (je_callB (jc_all rfl) rfl T.n_all (by decide +kernel) (ja_cons (lc2 (je_lc mok0 rfl sc_l_like.nd (ji_range1 rfl T.n_range (ja_cons (je_callB jc_len rfl T.n_len (by decide +kernel) (ja_cons (je_var (pv 1)) ja_nil)) ja_nil)) (blkOk_by (own := [("k", 2)]) (N := N_l_like) (sc := defScope s_l_like) (by decide +kernel)) (fun _ => (jgo_name (i := 2) (by first | decide | simp) sc_l_like.nd rfl (Or.inl rfl))) (fun _ => jts_nil) (fun _ => (je_call ih (hr.mono hj) hgd rfl T.m_l_like T.F_l_like.kp (b_l_like T) (fun _ => passAt0) (@xok0 _ _ _) (ja_cons (je_ix jx_seq (je_var (pv 0)) (je_var (pv 2)) (fun _ _ => rfl)) (ja_cons (je_ix jx_seq (je_var (pv 1)) (je_var (pv 2)) (fun _ _ => rfl)) ja_nil)))) (own := [("k", 2)]))) ja_nil))))) jss_nil)
    (jss_cons (js_if (jt_of (je_callB jc_isi rfl T.n_isinstance (by decide +kernel) (ja_cons (je_var (pv 1)) (ja_cons (je_raw (v := .ty "str") (pe_bltn rfl T.n_str (by decide +kernel) rfl)) ja_nil)))) (jss_one (js_ret (je_and (je_callB jc_isi rfl T.n_isinstance (by decide +kernel) (ja_cons (je_var (pv 0)) (ja_cons (je_raw (v := .ty "str") (pe_bltn rfl T.n_str (by decide +kernel) rfl)) ja_nil))) (je_one (je_cmp (jo_eq hr.units) (je_var (pv 0)) (je_var (pv 1)) (nomark _)))))) jss_nil)
    (jss_one (js_ret (je_and (je_callB jc_isi rfl T.n_isinstance (by decide +kernel) (ja_cons (je_var (pv 0)) (ja_cons (je_raw (v := .ty "int") (pe_bltn rfl T.n_int (by decide +kernel) rfl)) ja_nil))) (je_and (je_not (je_callB jc_isi rfl T.n_isinstance (by decide +kernel) (ja_cons (je_var (pv 0)) (ja_cons (je_raw (v := .ty "bool") (pe_bltn rfl T.n_bool (by decide +kernel) rfl)) ja_nil)))) (je_one (je_cmp (jo_eq hr.units) (je_var (pv 0)) (je_var (pv 1)) (nomark _))))))))))
theorem ok_l_like {P : Program} {w : World} {K : PySem.W.Frag} {mg : Str → Option Value} {base : Heap} (T : Top K mg) : ∀ n : Nat, FnG P w K mg base CX0 (1 + n) T.f_l_like T.fd_l_like ["found", "due"] (spOf K (c_l_like n)) 
  | 0 => fn_ok0 (k := 0) T.F_l_like sc_l_like (ari_l_like 0) (fun cdv A outer s H E G hgd hr => d_l_like T (Cr := recC c_l_like 0) (j := 0) fnG_no (by omega) (by omega) hgd hr) (w_l_like T.cl 0)
  | n + 1 => fn_ok0 (k := 1 + n) T.F_l_like sc_l_like (ari_l_like (n + 1)) (fun cdv A outer s H E G hgd hr => d_l_like T (Cr := recC c_l_like (n + 1)) (j := 1 + n) (ok_l_like T n) (by omega) (by omega) hgd hr) (w_l_like T.cl (n + 1))
theorem d_l_spoilt {P : Program} {w : World} {K : PySem.W.Frag} {mg : Str → Option Value} {base : Heap} {f : Addr} {cdv : Value} {A : Around} {outer : List Env} {s : Shared} {H : Hp} {E : XK} {G : Gn} (T : Top K mg) (hgd : A.guards = some [])
    (hr : Room 3 (A.deeper (envOfC "_law_spoilt" (defScope s_l_spoilt) s.heap.objs.size f cdv))) :
    JSs (cxOf CX0 P w K mg base N_l_spoilt "_law_spoilt" (defScope s_l_spoilt) f cdv A outer s H E).nox G (defBody s_l_spoilt) (a_l_spoilt T.cl fun p => G.H0 p = none) :=
    (jss_cons (js_par2 (i := 3) (j := 4) rfl sc_l_spoilt.nd rfl rfl (by decide) rfl rfl (ja_cons (je_callB jc_len rfl T.n_len (by decide +kernel) (ja_cons (je_var (pv 1)) ja_nil)) (ja_cons (je_call (ok_l_draw T) (hr.mono (by decide)) hgd rfl T.m_l_draw T.F_l_draw.kp (b_l_draw T) (fun _ => passAt0) (@xok0 _ _ _) (ja_cons (je_var (pv 0)) (ja_cons (je_callB jc_len rfl T.n_len (by decide +kernel) (ja_cons (je_var (pv 1)) ja_nil)) ja_nil))) ja_nil)) rfl)
    (jss_cons (js_set (i := 4) sc_l_spoilt.nd rfl (Or.inl rfl) (je_join (je_if (jt_cmp (jo_eq hr.units) (je_call (ok_l_draw T) (hr.mono (by decide)) hgd rfl T.m_l_draw T.F_l_draw.kp (b_l_draw T) (fun _ => passAt0) (@xok0 _ _ _) (ja_cons (je_var (pv 0)) (ja_cons je_int ja_nil))) je_int (nomark _)) (je_bin jo_sub (je_var (pv 3)) je_int) (je_var (pv 4)))))
    (jss_cons (js_set (i := 5) sc_l_spoilt.nd rfl (Or.inl rfl) (je_call (ok_l_add T) (hr.mono (by decide)) hgd rfl T.m_l_add T.F_l_add.kp (b_l_add T) (fun _ => passAt0) (@xok0 _ _ _) (ja_cons (je_var (pv 2)) (ja_cons (je_tup (ja_cons (je_un ju_neg je_int) (ja_cons (je_ix jx_seq (je_var (pv 1)) (je_var (pv 4)) (fun _ _ => rfl)) ja_nil))) ja_nil))))
    (jss_cons (js_set (i := 6) sc_l_spoilt.nd rfl (Or.inl rfl) (je_call (ok_l_pick T) (hr.mono (by decide)) hgd rfl T.m_l_pick T.F_l_pick.kp (b_l_pick T) (fun _ => passAt0) (@xok0 _ _ _) (ja_cons (je_var (pv 0)) (ja_cons (je_lst mok0 (ja_cons (je_bin (jo_add mok0) (je_ix jx_seq (je_var (pv 1)) (je_var (pv 4)) (fun _ _ => rfl)) je_int) (ja_cons (je_bin (jo_add mok0) (je_ix jx_seq (je_var (pv 1)) (je_var (pv 4)) (fun _ _ => rfl)) je_int) (ja_cons (je_bin jo_sub (je_ix jx_seq (je_var (pv 1)) (je_var (pv 4)) (fun _ _ => rfl)) je_int) (ja_cons (je_bin (jo_add mok0) (je_bin (jo_add mok0) (je_ix jx_seq (je_var (pv 1)) (je_var (pv 4)) (fun _ _ => rfl)) je_int) (je_call (ok_l_draw T) (hr.mono (by decide)) hgd rfl T.m_l_draw T.F_l_draw.kp (b_l_draw T) (fun _ => passAt0) (@xok0 _ _ _) (ja_cons (je_var (pv 0)) (ja_cons je_int ja_nil)))) (ja_cons (je_callB (jc_max2 rfl) rfl T.n_max (by decide +kernel) (ja_cons je_int (ja_cons (je_bin jo_div (je_ix jx_seq (je_var (pv 1)) (je_var (pv 4)) (fun _ _ => rfl)) je_int) ja_nil))) ja_nil)))))) ja_nil))))
    (jss_cons (js_set (i := 7) sc_l_spoilt.nd rfl (Or.inl rfl) (je_bin (jo_add mok0) (je_bin (jo_add mok0) (je_sl mok0 (je_var (pv 1)) jp_none (jp_some (je_var (pv 4)))) (je_tup (ja_cons (je_var (pv 6)) ja_nil))) (je_sl mok0 (je_var (pv 1)) (jp_some (je_bin (jo_add mok0) (je_var (pv 4)) je_int)) jp_none)))
    (jss_cons (js_set (i := 8) sc_l_spoilt.nd rfl (Or.inl rfl) (je_bin (jo_add mok0) (je_bin (jo_add mok0) (je_sl mok0 (je_var (pv 1)) jp_none (jp_some (je_var (pv 4)))) (je_tup (ja_cons (je_call (ok_l_odd T) (hr.mono (by decide)) hgd rfl T.m_l_odd T.F_l_odd.kp (b_l_odd T) (fun _ => passAt0) (@xok0 _ _ _) (ja_cons (je_var (pv 0)) (ja_cons (je_ix jx_seq (je_var (pv 1)) (je_var (pv 4)) (fun _ _ => rfl)) ja_nil))) ja_nil))) (je_sl mok0 (je_var (pv 1)) (jp_some (je_bin (jo_add mok0) (je_var (pv 4)) je_int)) jp_none)))
    (jss_cons (js_set (i := 9) sc_l_spoilt.nd rfl (Or.inl rfl) (je_lst mok1 (ja_cons (je_tup (ja_cons (je_var (pv 1)) (ja_cons (je_var (pv 2)) ja_nil))) (ja_cons (je_tup (ja_cons (je_tup ja_nil) (ja_cons (je_tup (ja_cons je_int (ja_cons je_int ja_nil))) ja_nil))) (ja_cons (je_tup (ja_cons (je_bin (jo_add mok0) (je_sl mok0 (je_var (pv 1)) jp_none (jp_some (je_var (pv 4)))) (je_sl mok0 (je_var (pv 1)) (jp_some (je_bin (jo_add mok0) (je_var (pv 4)) je_int)) jp_none)) (ja_cons (je_var (pv 5)) ja_nil))) (ja_cons (je_tup (ja_cons (je_bin (jo_add mok0) (je_bin (jo_add mok0) (je_sl mok0 (je_var (pv 1)) jp_none (jp_some (je_var (pv 4)))) (je_tup (ja_cons (je_ix jx_seq (je_var (pv 1)) (je_var (pv 4)) (fun _ _ => rfl)) ja_nil))) (je_sl mok0 (je_var (pv 1)) (jp_some (je_var (pv 4))) jp_none)) (ja_cons (je_var (pv 2)) ja_nil))) (ja_cons (je_tup (ja_cons (je_var (pv 8)) (ja_cons (je_var (pv 2)) ja_nil))) (ja_cons (je_tup (ja_cons (je_callTy (jc_listOf mok0) rfl T.n_list (by decide +kernel) (ja_cons (je_var (pv 1)) ja_nil)) (ja_cons (je_var (pv 2)) ja_nil))) ja_nil))))))))
    (jss_cons (js_expr (je_ml PySem.F.slot_list_append PySem.F.type_list_append jm_append (je_var (pv 9)) (ja_cons (je_tup (ja_cons (je_var (pv 7)) (ja_cons (je_join (je_if (jt_cmp jo_lt (je_var (pv 6)) je_int (nomark _)) (je_var (pv 2)) (je_call (ok_l_add T) (hr.mono (by decide)) hgd rfl T.m_l_add T.F_l_add.kp (b_l_add T) (fun _ => passAt0) (@xok0 _ _ _) (ja_cons (je_var (pv 5)) (ja_cons (je_tup (ja_cons je_int (ja_cons (je_var (pv 6)) ja_nil))) ja_nil))))) ja_nil))) ja_nil)))
    (jss_cons (js_expr (je_ml PySem.F.slot_list_append PySem.F.type_list_append jm_append (je_var (pv 9)) (ja_cons (je_tup (ja_cons (je_bin (jo_add mok0) (je_var (pv 1)) (je_tup (ja_cons (je_call0 (ok_l_most T) (hr.mono (by decide)) hgd rfl T.m_l_most T.F_l_most.kp (b_l_most T) (fun _ => passAt0) (@xok0 _ _ _)) ja_nil))) (ja_cons (je_call (ok_l_add T) (hr.mono (by decide)) hgd rfl T.m_l_add T.F_l_add.kp (b_l_add T) (fun _ => passAt0) (@xok0 _ _ _) (ja_cons (je_var (pv 2)) (ja_cons (je_tup (ja_cons je_int (ja_cons (je_call0 (ok_l_most T) (hr.mono (by decide)) hgd rfl T.m_l_most T.F_l_most.kp (b_l_most T) (fun _ => passAt0) (@xok0 _ _ _)) ja_nil))) ja_nil))) ja_nil))) ja_nil)))
    (jss_cons (js_expr (je_ml PySem.F.slot_list_append PySem.F.type_list_append jm_append (je_var (pv 9)) (ja_cons (je_tup (ja_cons (je_bin (jo_add mok0) (je_var (pv 1)) (je_tup (ja_cons (je_bin (jo_add mok0) (je_call0 (ok_l_most T) (hr.mono (by decide)) hgd rfl T.m_l_most T.F_l_most.kp (b_l_most T) (fun _ => passAt0) (@xok0 _ _ _)) je_int) ja_nil))) (ja_cons (je_var (pv 2)) ja_nil))) ja_nil)))
    (jss_cons (js_expr (je_ml PySem.F.slot_list_append PySem.F.type_list_append jm_append (je_var (pv 9)) (ja_cons (je_tup (ja_cons (je_bin (jo_add mok0) (je_bin (jo_add mok0) (je_sl mok0 (je_var (pv 1)) jp_none (jp_some (je_var (pv 4)))) (je_tup (ja_cons je_bl ja_nil))) (je_sl mok0 (je_var (pv 1)) (jp_some (je_bin (jo_add mok0) (je_var (pv 4)) je_int)) jp_none)) (ja_cons (je_var (pv 2)) ja_nil))) ja_nil)))
    (jss_cut (js_if (jt_cmp jo_gt (je_var (pv 3)) je_int (nomark _)) (jss_cons (js_set (i := 10) sc_l_spoilt.nd rfl (Or.inl rfl) (je_join (je_if (jt_cmp (jo_eq hr.units) (je_call (ok_l_draw T) (hr.mono (by decide)) hgd rfl T.m_l_draw T.F_l_draw.kp (b_l_draw T) (fun _ => passAt0) (@xok0 _ _ _) (ja_cons (je_var (pv 0)) (ja_cons je_int ja_nil))) je_int (nomark _)) (je_bin jo_sub (je_var (pv 3)) je_int) (je_call (ok_l_draw T) (hr.mono (by decide)) hgd rfl T.m_l_draw T.F_l_draw.kp (b_l_draw T) (fun _ => passAt0) (@xok0 _ _ _) (ja_cons (je_var (pv 0)) (ja_cons (je_bin jo_sub (je_var (pv 3)) je_int) ja_nil))))))
    (jss_cons (js_set (i := 11) sc_l_spoilt.nd rfl (Or.inl rfl) (je_bin (jo_add mok0) (je_bin (jo_add mok0) (je_sl mok0 (je_var (pv 1)) jp_none (jp_some (je_var (pv 10)))) (je_tup (ja_cons (je_ix jx_seq (je_var (pv 1)) (je_bin (jo_add mok0) (je_var (pv 10)) je_int) (fun _ _ => rfl)) (ja_cons (je_ix jx_seq (je_var (pv 1)) (je_var (pv 10)) (fun _ _ => rfl)) ja_nil)))) (je_sl mok0 (je_var (pv 1)) (jp_some (je_bin (jo_add mok0) (je_var (pv 10)) je_int)) jp_none)))
    (jss_cons (js_expr (je_ml PySem.F.slot_list_append PySem.F.type_list_append jm_append (je_var (pv 9)) (ja_cons (je_tup (ja_cons (je_var (pv 11)) (ja_cons (je_var (pv 2)) ja_nil))) ja_nil)))
    (jss_cons (js_expr (je_ml PySem.F.slot_list_append PySem.F.type_list_append jm_append (je_var (pv 9)) (ja_cons (je_tup (ja_cons (je_bin (jo_add mok0) (je_sl mok0 (je_var (pv 11)) jp_none (jp_some (je_un ju_neg je_int))) (je_tup (ja_cons je_int ja_nil))) (ja_cons (je_var (pv 2)) ja_nil))) ja_nil)))
    (jss_cons (js_expr (je_ml PySem.F.slot_list_append PySem.F.type_list_append jm_append (je_var (pv 9)) (ja_cons (je_tup (ja_cons (je_bin (jo_add mok0) (je_bin (jo_add mok0) (je_bin (jo_add mok0) (je_sl mok0 (je_var (pv 1)) jp_none (jp_some (je_var (pv 10)))) (je_tup (ja_cons (je_ix jx_seq (je_var (pv 1)) (je_bin (jo_add mok0) (je_var (pv 10)) je_int) (fun _ _ => rfl)) (ja_cons (je_ix jx_seq (je_var (pv 1)) (je_var (pv 10)) (fun _ _ => rfl)) ja_nil)))) (je_sl mok0 (je_var (pv 8)) (jp_some (je_bin (jo_add mok0) (je_var (pv 10)) je_int)) jp_none)) (je_tup (ja_cons je_int ja_nil))) (ja_cons (je_var (pv 2)) ja_nil))) ja_nil)))
    (jss_cons (js_expr (je_ml PySem.F.slot_list_append PySem.F.type_list_append jm_append (je_var (pv 9)) (ja_cons (je_tup (ja_cons (je_callTy jc_tupleOf rfl T.n_tuple (by decide +kernel) (ja_cons (je_listRev mok0 rfl rfl T.n_list rfl T.n_reversed (je_callTy (jc_listOf mok0) rfl T.n_list (by decide +kernel) (ja_cons (je_var (pv 1)) ja_nil))) ja_nil)) (ja_cons (je_var (pv 2)) ja_nil))) ja_nil)))
    (jss_one (js_expr (je_ml PySem.F.slot_list_append PySem.F.type_list_append jm_append (je_var (pv 9)) (ja_cons (je_tup (ja_cons (je_bin (jo_add mok0) (je_sl mok0 (je_var (pv 1)) jp_none (jp_some (je_bin jo_sub (je_var (pv 3)) je_int))) (je_tup (ja_cons (je_ix jx_seq (je_var (pv 1)) (je_bin jo_sub (je_var (pv 3)) je_int) (fun _ _ => rfl)) ja_nil))) (ja_cons (je_var (pv 2)) ja_nil))) ja_nil)))))))))) jss_nil)
    (jss_cons (js_set (i := 12) sc_l_spoilt.nd rfl (Or.inl rfl) (je_bin (jo_add mok0) (je_bin jo_sub je_int (je_var (pv 3))) (je_call (ok_l_pick T) (hr.mono (by decide)) hgd rfl T.m_l_pick T.F_l_pick.kp (b_l_pick T) (fun _ => passAt0) (@xok0 _ _ _) (ja_cons (je_var (pv 0)) (ja_cons (je_lst mok0 (ja_cons je_int (ja_cons je_int (ja_cons je_int (ja_cons je_int ja_nil))))) ja_nil)))))
    (jss_cons (js_expr (je_ml PySem.F.slot_list_append PySem.F.type_list_append jm_append (je_var (pv 9)) (ja_cons (je_tup (ja_cons (je_bin (jo_add mok0) (je_var (pv 1)) (je_callTy jc_tupleOf rfl T.n_tuple (by decide +kernel) (ja_cons (lc2 (je_lc mok0 rfl sc_l_spoilt.nd (ji_range1 rfl T.n_range (ja_cons (je_var (pv 12)) ja_nil)) (blkOk_by (own := [("k", 10)]) (N := N_l_spoilt) (sc := defScope s_l_spoilt) (by decide +kernel)) (fun _ => (jgo_name (i := 10) (by first | decide | simp) sc_l_spoilt.nd rfl (Or.inl rfl))) (fun _ => jts_nil) (fun _ => (je_bin (jo_add mok0) (je_bin (jo_add mok0) (je_ix jx_seq (je_var (pv 1)) (je_un ju_neg je_int) (fun _ _ => rfl)) je_int) (je_var (pv 10)))) (own := [("k", 10)]))) ja_nil))) (ja_cons (je_var (pv 2)) ja_nil))) ja_nil)))
    (jss_cons (js_expr (je_ml PySem.F.slot_list_append PySem.F.type_list_append jm_append (je_var (pv 9)) (ja_cons (je_tup (ja_cons (je_bin (jo_add mok0) (je_var (pv 1)) (je_bin (jo_mulB mok0) (je_tup (ja_cons je_int ja_nil)) (je_var (pv 12)))) (ja_cons (je_var (pv 2)) ja_nil))) ja_nil)))
    (jss_cons (js_expr (je_ml PySem.F.slot_list_append PySem.F.type_list_append jm_append (je_var (pv 9)) (ja_cons (je_tup (ja_cons (je_call (ok_l_pick T) (hr.mono (by decide)) hgd rfl T.m_l_pick T.F_l_pick.kp (b_l_pick T) (fun _ => passAt0) (@xok0 _ _ _) (ja_cons (je_var (pv 0)) (ja_cons (je_lst mok0 (ja_cons je_non (ja_cons je_bl (ja_cons je_int (ja_cons je_str (ja_cons je_str (ja_cons je_dnewD (ja_cons (je_lst mok0 ja_nil) (ja_cons (je_tup (ja_cons je_str (ja_cons (je_var (pv 1)) ja_nil))) (ja_cons (je_tup (ja_cons (je_var (pv 1)) ja_nil)) (ja_cons (je_tup (ja_cons (je_tup ja_nil) ja_nil)) (ja_cons (je_dispD (jp_cons (k := (.inr "units")) pe_str (je_var (pv 1)) jp_nil) rfl rfl (fun z => by cases z) (by decide)) (ja_cons (je_bin jo_pow je_int je_int) ja_nil))))))))))))) ja_nil))) (ja_cons (je_var (pv 2)) ja_nil))) ja_nil)))
    (jss_one (js_retF (je_var (pv 9))))))))))))))))))))
theorem ok_l_spoilt {P : Program} {w : World} {K : PySem.W.Frag} {mg : Str → Option Value} {base : Heap} (T : Top K mg) : FnG P w K mg base CX0 4 T.f_l_spoilt T.fd_l_spoilt ["bag", "u", "s"] (spOf K c_l_spoilt) :=
  fn_ok0 (k := 3) T.F_l_spoilt sc_l_spoilt ari_l_spoilt (fun cdv A outer s H E G hgd hr => d_l_spoilt T hgd hr) (w_l_spoilt T.cl)
theorem d_l_judges {P : Program} {w : World} {K : PySem.W.Frag} {mg : Str → Option Value} {base : Heap} {f : Addr} {cdv : Value} {A : Around} {outer : List Env} {s : Shared} {H : Hp} {E : XK} {G : Gn} (T : Top K mg) (hgd : A.guards = some [])
    (hr : Room 4 (A.deeper (envOfC "_law_judges" (defScope s_l_judges) s.heap.objs.size f cdv))) :
    JSs (cxOf CX0 P w K mg base N_l_judges "_law_judges" (defScope s_l_judges) f cdv A outer s H E).nox G (defBody s_l_judges) (a_l_judges T.cl fun p => G.H0 p = none) :=
    (jss_cons (js_for PassesOwn.never rfl (ji_enumerate rfl T.n_enumerate (ja_cons (je_var (pv 3)) ja_nil)) (jg_tup rfl (jgs1 (jg_name (i := 4) sc_l_judges.nd rfl (Or.inl rfl)) (jgs1 (jg_tup rfl (jgs1 (jg_name (i := 5) sc_l_judges.nd rfl (Or.inl rfl)) (jgs1 (jg_name (i := 6) sc_l_judges.nd rfl (Or.inl rfl)) jgs0))) jgs0))) (jss_cons (js_par2 (i := 7) (j := 8) rfl sc_l_judges.nd rfl rfl (by decide) rfl rfl (ja_cons (je_call (ok_l_shape T) (hr.mono (by decide)) hgd rfl T.m_l_shape T.F_l_shape.kp (b_l_shape T) (fun _ => passAt0) (@xok0 _ _ _) (ja_cons (je_var (pv 5)) ja_nil)) (ja_cons (je_callB (jc_reprD hr.units hgd) rfl T.n_repr (by decide +kernel) (ja_cons (je_var (pv 5)) ja_nil)) ja_nil)) rfl)
    (jss_cons (js_set (i := 9) sc_l_judges.nd rfl (Or.inl rfl) (je_var (pv 7)))
    (jss_cons (js_if (jw_pt (jw_and (jt_cmp jo_is (je_var (pv 7)) je_non (nomark _)) (jw_and1 (jt_cmp (jo_ne hr.units) (je_bin jo_mulI (je_ix jx_seq (je_var (pv 6)) je_int (fun _ _ => rfl)) (je_var (pv 2))) (je_bin jo_mulI (je_var (pv 1)) (je_ix jx_seq (je_var (pv 6)) je_int (fun _ _ => rfl))) (nomark _))))) (jss_one (js_set (i := 9) sc_l_judges.nd rfl (Or.inl rfl) (je_tup (ja_cons je_str (ja_cons (je_var (pv 6)) ja_nil))))) jss_nil)
    (jss_cons (js_set (i := 10) sc_l_judges.nd rfl (Or.inl rfl) (je_join (je_if (jt_cmp (jo_eq hr.units) (je_bin jo_mod (je_callTy jc_int rfl T.n_int (by decide +kernel) (ja_cons (je_var (pv 4)) ja_nil)) je_int) je_int (nomark _)) (je_callK0 (ks := ["x", "y", "value"]) (ok_units_error T) (hr.mono (by decide)) hgd rfl T.m_units_error T.F_units_error.kp (kargs T.F_units_error (ps := ["x", "y", "value"]) (ks := ["x", "y", "value"]) (n := 0) (π := [0, 1, 2]) fun _ _ _ _ _ _ us ws h1 h2 => match us, ws, h1, h2 with | [], [_, _, _], _, _ => rfl) (by decide) (fun _ => passAt0) (@xok0 _ _ _) (jk_cons (je_var (pv 1)) (jk_cons (je_var (pv 2)) (jk_cons (je_var (pv 5)) jk_nil)))) (je_call (ok_units_error T) (hr.mono (by decide)) hgd rfl T.m_units_error T.F_units_error.kp (b_units_error T) (fun _ => passAt0) (@xok0 _ _ _) (ja_cons (je_var (pv 1)) (ja_cons (je_var (pv 2)) (ja_cons (je_var (pv 5)) ja_nil)))))))
    (jss_cons (js_if (jw_pt (jw_or (jt_not (jt_of (je_call (ok_l_like T 3) (hr.mono (by decide)) hgd rfl T.m_l_like T.F_l_like.kp (b_l_like T) (fun _ => passAt0) (@xok0 _ _ _) (ja_cons (je_var (pv 10)) (ja_cons (je_var (pv 9)) ja_nil))))) (jw_or1 (jt_cmp (jo_ne hr.units) (je_callB (jc_reprD hr.units hgd) rfl T.n_repr (by decide +kernel) (ja_cons (je_var (pv 5)) ja_nil)) (je_var (pv 8)) (nomark _))))) (jss_one (js_ret je_bl)) jss_nil)
    (jss_one (js_if (jt_cmp jo_is (je_var (pv 7)) je_non (nomark _)) (jss_cons (js_set (i := 10) sc_l_judges.nd rfl (Or.inl rfl) (je_join (je_if (jt_cmp (jo_eq hr.units) (je_bin jo_mod (je_callTy jc_int rfl T.n_int (by decide +kernel) (ja_cons (je_var (pv 4)) ja_nil)) je_int) je_int (nomark _)) (je_callK0 (ks := ["units"]) (ok_units_sum T) (hr.mono (by decide)) hgd rfl T.m_units_sum T.F_units_sum.kp (kargs T.F_units_sum (ps := ["units"]) (ks := ["units"]) (n := 0) (π := [0]) fun _ _ _ _ _ _ us ws h1 h2 => match us, ws, h1, h2 with | [], [_], _, _ => rfl) (by decide) (fun _ => passAt0) (@xok0 _ _ _) (jk_cons (je_var (pv 5)) jk_nil)) (je_call (ok_units_sum T) (hr.mono (by decide)) hgd rfl T.m_units_sum T.F_units_sum.kp (b_units_sum T) (fun _ => passAt0) (@xok0 _ _ _) (ja_cons (je_var (pv 5)) ja_nil)))))
    (jss_one (js_if (jw_pt (jw_or (jt_not (jt_of (je_call (ok_l_like T 3) (hr.mono (by decide)) hgd rfl T.m_l_like T.F_l_like.kp (b_l_like T) (fun _ => passAt0) (@xok0 _ _ _) (ja_cons (je_var (pv 10)) (ja_cons (je_var (pv 6)) ja_nil))))) (jw_or1 (jt_cmp (jo_ne hr.units) (je_callB (jc_reprD hr.units hgd) rfl T.n_repr (by decide +kernel) (ja_cons (je_var (pv 5)) ja_nil)) (je_var (pv 8)) (nomark _))))) (jss_one (js_ret je_bl)) jss_nil))) jss_nil))))))))
    (jss_one (js_ret je_bl)))
theorem ok_l_judges {P : Program} {w : World} {K : PySem.W.Frag} {mg : Str → Option Value} {base : Heap} (T : Top K mg) : FnG P w K mg base CX0 5 T.f_l_judges T.fd_l_judges ["bag", "x", "y", "cases"] (spOf K c_l_judges) :=
  fn_ok0 (k := 4) T.F_l_judges sc_l_judges ari_l_judges (fun cdv A outer s H E G hgd hr => d_l_judges T hgd hr) (w_l_judges T.cl)
theorem d_l_are_splits_right {P : Program} {w : World} {K : PySem.W.Frag} {mg : Str → Option Value} {base : Heap} {f : Addr} {cdv : Value} {A : Around} {outer : List Env} {s : Shared} {H : Hp} {E : XK} {G : Gn} (T : Top K mg) (hgd : A.guards = some [])
    (hr : Room 4 (A.deeper (envOfC "_law_are_splits_right" (defScope s_l_are_splits_right) s.heap.objs.size f cdv))) :
    JSs (cxOf CX0 P w K mg base N_l_are_splits_right "_law_are_splits_right" (defScope s_l_are_splits_right) f cdv A outer s H E).nox G (defBody s_l_are_splits_right) (a_l_are_splits_right T.cl fun p => G.H0 p = none) :=
    (jss_cons (js_for PassesOwn.never rfl (ji_of (je_lst mok0 (ja_cons je_int (ja_cons je_int (ja_cons je_int (ja_cons (je_bin (jo_add mok0) je_int (je_call (ok_l_draw T) (hr.mono (by decide)) hgd rfl T.m_l_draw T.F_l_draw.kp (b_l_draw T) (fun _ => passAt0) (@xok0 _ _ _) (ja_cons (je_var (pv 0)) (ja_cons je_int ja_nil)))) (ja_cons (je_bin (jo_add mok0) je_int (je_call (ok_l_draw T) (hr.mono (by decide)) hgd rfl T.m_l_draw T.F_l_draw.kp (b_l_draw T) (fun _ => passAt0) (@xok0 _ _ _) (ja_cons (je_var (pv 0)) (ja_cons je_int ja_nil)))) (ja_cons je_int ja_nil)))))))) (jg_name (i := 1) sc_l_are_splits_right.nd rfl (Or.inl rfl)) (jss_cons (js_set (i := 2) sc_l_are_splits_right.nd rfl (Or.inl rfl) (je_call (ok_l_split T) (hr.mono (by decide)) hgd rfl T.m_l_split T.F_l_split.kp (b_l_split T) (fun _ => passAt0) (@xok0 _ _ _) (ja_cons (je_var (pv 1)) (ja_cons (je_cmp (jo_eq hr.units) (je_call (ok_l_draw T) (hr.mono (by decide)) hgd rfl T.m_l_draw T.F_l_draw.kp (b_l_draw T) (fun _ => passAt0) (@xok0 _ _ _) (ja_cons (je_var (pv 0)) (ja_cons je_int ja_nil))) je_int (nomark _)) ja_nil))))
    (jss_cons (js_if (jw_pt (jw_or (jw_pt (jw_and (jt_cmp (jo_eq hr.units) (je_var (pv 1)) je_int (nomark _)) (jw_and1 (jt_cmp (jo_ne hr.units) (je_var (pv 2)) (je_lst mok0 (ja_cons je_bl ja_nil)) (nomark _))))) (jw_or1 (jw_pt (jw_and (jt_cmp jo_gt (je_var (pv 1)) je_int (nomark _)) (jw_and1 (jt_not (jt_of (je_call (ok_l_like T 3) (hr.mono (by decide)) hgd rfl T.m_l_like T.F_l_like.kp (b_l_like T) (fun _ => passAt0) (@xok0 _ _ _) (ja_cons (je_var (pv 2)) (ja_cons (je_tup (ja_cons (je_bin (jo_add mok0) (je_var (pv 1)) je_int) (ja_cons (je_bin jo_mulI (je_var (pv 1)) (je_bin (jo_add mok0) (je_var (pv 1)) je_int)) ja_nil))) ja_nil))))))))))) (jss_one (js_ret je_bl)) jss_nil)
    (jss_cons (js_if (jw_pt (jw_and (jt_cmp jo_gt (je_var (pv 1)) je_int (nomark _)) (jw_and1 (jt_not (jt_of (je_call (ok_l_like T 3) (hr.mono (by decide)) hgd rfl T.m_l_like T.F_l_like.kp (b_l_like T) (fun _ => passAt0) (@xok0 _ _ _) (ja_cons (je_call (ok_units_sum T) (hr.mono (by decide)) hgd rfl T.m_units_sum T.F_units_sum.kp (b_units_sum T) (fun _ => passAt0) (@xok0 _ _ _) (ja_cons (je_tup (ja_cons (je_bin (jo_add mok0) (je_var (pv 1)) je_int) (ja_cons (je_bin jo_mulI (je_var (pv 1)) (je_bin (jo_add mok0) (je_var (pv 1)) je_int)) ja_nil))) ja_nil)) (ja_cons (je_tup (ja_cons je_int (ja_cons (je_var (pv 1)) ja_nil))) ja_nil)))))))) (jss_one (js_ret je_bl)) jss_nil)
    (jss_one (js_if (jw_pt (jw_and (jt_chain jo_lt jo_lt je_int (je_var (pv 1)) je_int) (jw_and1 (jt_not (jt_of (je_call (ok_l_like T 3) (hr.mono (by decide)) hgd rfl T.m_l_like T.F_l_like.kp (b_l_like T) (fun _ => passAt0) (@xok0 _ _ _) (ja_cons (je_call (ok_units_error T) (hr.mono (by decide)) hgd rfl T.m_units_error T.F_units_error.kp (b_units_error T) (fun _ => passAt0) (@xok0 _ _ _) (ja_cons je_int (ja_cons (je_var (pv 1)) (ja_cons (je_tup (ja_cons (je_bin (jo_add mok0) (je_var (pv 1)) je_int) (ja_cons (je_bin jo_mulI (je_var (pv 1)) (je_bin (jo_add mok0) (je_var (pv 1)) je_int)) ja_nil))) ja_nil)))) (ja_cons je_non ja_nil)))))))) (jss_one (js_ret je_bl)) jss_nil))))))
    (jss_one (js_ret je_bl)))
theorem ok_l_are_splits_right {P : Program} {w : World} {K : PySem.W.Frag} {mg : Str → Option Value} {base : Heap} (T : Top K mg) : FnG P w K mg base CX0 5 T.f_l_are_splits_right T.fd_l_are_splits_right ["bag"] (spOf K c_l_are_splits_right) :=
  fn_ok0 (k := 4) T.F_l_are_splits_right sc_l_are_splits_right ari_l_are_splits_right (fun cdv A outer s H E G hgd hr => d_l_are_splits_right T hgd hr) (w_l_are_splits_right T.cl)
theorem d_l_is_greedy_right {P : Program} {w : World} {K : PySem.W.Frag} {mg : Str → Option Value} {base : Heap} {f : Addr} {cdv : Value} {A : Around} {outer : List Env} {s : Shared} {H : Hp} {E : XK} {G : Gn} (T : Top K mg) (hgd : A.guards = some [])
    (hr : Room 5 (A.deeper (envOfC "_law_is_greedy_right" (defScope s_l_is_greedy_right) s.heap.objs.size f cdv))) :
    JSs (cxOf CX0 P w K mg base N_l_is_greedy_right "_law_is_greedy_right" (defScope s_l_is_greedy_right) f cdv A outer s H E).nox G (defBody s_l_is_greedy_right) (a_l_is_greedy_right T.cl fun p => G.H0 p = none) :=
    (jss_cons (js_par2 (i := 3) (j := 4) rfl sc_l_is_greedy_right.nd rfl rfl (by decide) rfl rfl (ja_cons (je_call (ok_l_greedy T) (hr.mono (by decide)) hgd rfl T.m_l_greedy T.F_l_greedy.kp (b_l_greedy T) (fun _ => passAt0) (@xok0 _ _ _) (ja_cons (je_var (pv 1)) (ja_cons (je_var (pv 2)) ja_nil))) (ja_cons (je_call (ok_l_least T) (hr.mono (by decide)) hgd rfl T.m_l_least T.F_l_least.kp (b_l_least T) (fun _ => passAt0) (@xok0 _ _ _) (ja_cons (je_var (pv 1)) (ja_cons (je_var (pv 2)) ja_nil))) ja_nil)) rfl)
    (jss_cons (js_if (jw_pt (jw_or (jt_not (jt_of (je_call (ok_l_like T 3) (hr.mono (by decide)) hgd rfl T.m_l_like T.F_l_like.kp (b_l_like T) (fun _ => passAt0) (@xok0 _ _ _) (ja_cons (je_call (ok_greedy_units T) (hr.mono (by decide)) hgd rfl T.m_greedy_units T.F_greedy_units.kp (b_greedy_units T) (fun _ => passAt0) (@xok0 _ _ _) (ja_cons (je_var (pv 1)) (ja_cons (je_var (pv 2)) ja_nil))) (ja_cons (je_var (pv 3)) ja_nil))))) (jw_or1 (jt_not (jt_of (je_call (ok_l_like T 3) (hr.mono (by decide)) hgd rfl T.m_l_like T.F_l_like.kp (b_l_like T) (fun _ => passAt0) (@xok0 _ _ _) (ja_cons (je_callK0 (ks := ["y", "x"]) (ok_greedy_units T) (hr.mono (by decide)) hgd rfl T.m_greedy_units T.F_greedy_units.kp (kargs T.F_greedy_units (ps := ["x", "y"]) (ks := ["y", "x"]) (n := 0) (π := [1, 0]) fun _ _ _ _ _ _ us ws h1 h2 => match us, ws, h1, h2 with | [], [_, _], _, _ => rfl) (by decide) (fun _ => passAt0) (@xok0 _ _ _) (jk_cons (je_var (pv 2)) (jk_cons (je_var (pv 1)) jk_nil))) (ja_cons (je_var (pv 3)) ja_nil)))))))) (jss_one (js_ret je_bl)) jss_nil)
    (jss_cons (js_set (i := 5) sc_l_is_greedy_right.nd rfl (Or.inl rfl) (je_bin (jo_add mok0) je_int (je_call (ok_l_draw T) (hr.mono (by decide)) hgd rfl T.m_l_draw T.F_l_draw.kp (b_l_draw T) (fun _ => passAt0) (@xok0 _ _ _) (ja_cons (je_var (pv 0)) (ja_cons (je_bin jo_div je_int (je_ix jx_seq (je_var (pv 4)) je_int (fun _ _ => rfl))) ja_nil)))))
    (jss_cons (js_if (jw_pt (jw_or (jt_not (jt_of (je_call (ok_l_like T 3) (hr.mono (by decide)) hgd rfl T.m_l_like T.F_l_like.kp (b_l_like T) (fun _ => passAt0) (@xok0 _ _ _) (ja_cons (je_call (ok_greedy_units T) (hr.mono (by decide)) hgd rfl T.m_greedy_units T.F_greedy_units.kp (b_greedy_units T) (fun _ => passAt0) (@xok0 _ _ _) (ja_cons (je_bin jo_mulI (je_var (pv 5)) (je_ix jx_seq (je_var (pv 4)) je_int (fun _ _ => rfl))) (ja_cons (je_bin jo_mulI (je_var (pv 5)) (je_ix jx_seq (je_var (pv 4)) je_int (fun _ _ => rfl))) ja_nil))) (ja_cons (je_var (pv 3)) ja_nil))))) (jw_or1 (jt_not (jt_of (je_call (ok_l_like T 3) (hr.mono (by decide)) hgd rfl T.m_l_like T.F_l_like.kp (b_l_like T) (fun _ => passAt0) (@xok0 _ _ _) (ja_cons (je_call (ok_units_error T) (hr.mono (by decide)) hgd rfl T.m_units_error T.F_units_error.kp (b_units_error T) (fun _ => passAt0) (@xok0 _ _ _) (ja_cons (je_bin jo_mulI (je_var (pv 5)) (je_ix jx_seq (je_var (pv 4)) je_int (fun _ _ => rfl))) (ja_cons (je_bin jo_mulI (je_var (pv 5)) (je_ix jx_seq (je_var (pv 4)) je_int (fun _ _ => rfl))) (ja_cons (je_var (pv 3)) ja_nil)))) (ja_cons je_non ja_nil)))))))) (jss_one (js_ret je_bl)) jss_nil)
    (jss_cons (js_if (jw_pt (jw_or (jt_not (jt_of (je_call (ok_l_like T 3) (hr.mono (by decide)) hgd rfl T.m_l_like T.F_l_like.kp (b_l_like T) (fun _ => passAt0) (@xok0 _ _ _) (ja_cons (je_call (ok_units_sum T) (hr.mono (by decide)) hgd rfl T.m_units_sum T.F_units_sum.kp (b_units_sum T) (fun _ => passAt0) (@xok0 _ _ _) (ja_cons (je_var (pv 3)) ja_nil)) (ja_cons (je_var (pv 4)) ja_nil))))) (jw_or1 (jt_not (jt_of (je_call (ok_l_judges T) (hr.mono (by decide)) hgd rfl T.m_l_judges T.F_l_judges.kp (b_l_judges T) (fun _ => passAt0) (@xok0 _ _ _) (ja_cons (je_var (pv 0)) (ja_cons (je_var (pv 1)) (ja_cons (je_var (pv 2)) (ja_cons (je_call (ok_l_spoilt T) (hr.mono (by decide)) hgd rfl T.m_l_spoilt T.F_l_spoilt.kp (b_l_spoilt T) (fun _ => passAt0) (@xok0 _ _ _) (ja_cons (je_var (pv 0)) (ja_cons (je_var (pv 3)) (ja_cons (je_var (pv 4)) ja_nil)))) ja_nil)))))))))) (jss_one (js_ret je_bl)) jss_nil)
    (jss_cons (js_set (i := 6) sc_l_is_greedy_right.nd rfl (Or.inl rfl) (je_call (ok_l_put_apart T) (hr.mono (by decide)) hgd rfl T.m_l_put_apart T.F_l_put_apart.kp (b_l_put_apart T) (fun _ => passAt0) (@xok0 _ _ _) (ja_cons (je_var (pv 0)) (ja_cons (je_var (pv 3)) (ja_cons (je_call (ok_l_pick T) (hr.mono (by decide)) hgd rfl T.m_l_pick T.F_l_pick.kp (b_l_pick T) (fun _ => passAt0) (@xok0 _ _ _) (ja_cons (je_var (pv 0)) (ja_cons (je_lst mok0 (ja_cons (je_bin (jo_add mok0) (je_callB jc_len rfl T.n_len (by decide +kernel) (ja_cons (je_var (pv 3)) ja_nil)) je_int) (ja_cons je_int (ja_cons je_int (ja_cons je_int (ja_cons (je_bin (jo_add mok0) je_int (je_call (ok_l_draw T) (hr.mono (by decide)) hgd rfl T.m_l_draw T.F_l_draw.kp (b_l_draw T) (fun _ => passAt0) (@xok0 _ _ _) (ja_cons (je_var (pv 0)) (ja_cons je_int ja_nil)))) ja_nil)))))) ja_nil))) ja_nil)))))
    (jss_cons (js_set (i := 7) sc_l_is_greedy_right.nd rfl (Or.inl rfl) (je_join (je_if (jt_cmp jo_gt (je_callB jc_len rfl T.n_len (by decide +kernel) (ja_cons (je_var (pv 6)) ja_nil)) je_int (nomark _)) (je_lst mok0 (ja_cons (je_tup (ja_cons (je_var (pv 6)) (ja_cons (je_var (pv 4)) ja_nil))) ja_nil)) (je_call (ok_l_spoilt T) (hr.mono (by decide)) hgd rfl T.m_l_spoilt T.F_l_spoilt.kp (b_l_spoilt T) (fun _ => passAt0) (@xok0 _ _ _) (ja_cons (je_var (pv 0)) (ja_cons (je_var (pv 6)) (ja_cons (je_var (pv 4)) ja_nil)))))))
    (jss_cons (js_set (i := 8) sc_l_is_greedy_right.nd rfl (Or.inl rfl) (je_call (ok_l_fraction T) (hr.mono (by decide)) hgd rfl T.m_l_fraction T.F_l_fraction.kp (b_l_fraction T) (fun _ => passAt0) (@xok0 _ _ _) (ja_cons (je_var (pv 0)) ja_nil)))
    (jss_one (js_ret (je_and (je_call (ok_l_judges T) (hr.mono (by decide)) hgd rfl T.m_l_judges T.F_l_judges.kp (b_l_judges T) (fun _ => passAt0) (@xok0 _ _ _) (ja_cons (je_var (pv 0)) (ja_cons (je_var (pv 1)) (ja_cons (je_var (pv 2)) (ja_cons (je_var (pv 7)) ja_nil))))) (je_one (je_call (ok_l_judges T) (hr.mono (by decide)) hgd rfl T.m_l_judges T.F_l_judges.kp (b_l_judges T) (fun _ => passAt0) (@xok0 _ _ _) (ja_cons (je_var (pv 0)) (ja_cons (je_ix jx_seq (je_var (pv 8)) je_int (fun _ _ => rfl)) (ja_cons (je_ix jx_seq (je_var (pv 8)) je_int (fun _ _ => rfl)) (ja_cons (je_lst mok0 (ja_cons (je_tup (ja_cons (je_var (pv 3)) (ja_cons (je_var (pv 4)) ja_nil))) (ja_cons (je_tup (ja_cons (je_var (pv 6)) (ja_cons (je_var (pv 4)) ja_nil))) ja_nil))) ja_nil)))))))))))))))))
theorem ok_l_is_greedy_right {P : Program} {w : World} {K : PySem.W.Frag} {mg : Str → Option Value} {base : Heap} (T : Top K mg) : FnG P w K mg base CX0 6 T.f_l_is_greedy_right T.fd_l_is_greedy_right ["bag", "x", "y"] (spOf K c_l_is_greedy_right) :=
  fn_ok0 (k := 5) T.F_l_is_greedy_right sc_l_is_greedy_right ari_l_is_greedy_right (fun cdv A outer s H E G hgd hr => d_l_is_greedy_right T hgd hr) (w_l_is_greedy_right T.cl)
theorem d_law {P : Program} {w : World} {K : PySem.W.Frag} {mg : Str → Option Value} {base : Heap} {f : Addr} {cdv : Value} {A : Around} {outer : List Env} {s : Shared} {H : Hp} {E : XK} {G : Gn} (T : Top K mg) (hgd : A.guards = some [])
    (hr : Room 6 (A.deeper (envOfC "law" (defScope s_law) s.heap.objs.size f cdv))) :
    JSs (cxOf CX0 P w K mg base N_law "law" (defScope s_law) f cdv A outer s H E).nox G (defBody s_law) (a_law T.cl fun p => G.H0 p = none) :=
    (jss_cons (js_set (i := 1) sc_law.nd rfl (Or.inl rfl) (je_call (ok_l_own_bag T) (hr.mono (by decide)) hgd rfl T.m_l_own_bag T.F_l_own_bag.kp (b_l_own_bag T) (fun _ => passAt0) (@xok0 _ _ _) (ja_cons (je_var (pv 0)) ja_nil)))
    (jss_cons (js_if (jt_not (jt_of (je_call (ok_l_like T 3) (hr.mono (by decide)) hgd rfl T.m_l_like T.F_l_like.kp (b_l_like T) (fun _ => passAt0) (@xok0 _ _ _) (ja_cons (je_tup (ja_cons (je_c (v := .int 100) (pe_glob rfl T.m_MAX_UNIT ⟨_, rfl⟩) (fun _ => .int _)) (ja_cons (je_c (v := .int 20) (pe_glob rfl T.m_MAX_UNITS ⟨_, rfl⟩) (fun _ => .int _)) (ja_cons (je_c (v := .int 10000000000000000000000000000000000000000000000000000000000000000000000000000000000000000000000000000000000000000000000000000000000000000000000000000000000000000) (pe_glob rfl T.m_MAX_UNIT_ITEM ⟨_, rfl⟩) (fun _ => .int _)) (ja_cons (je_c (v := .int 1000) (pe_glob rfl T.m_MAX_BELOW ⟨_, rfl⟩) (fun _ => .int _)) ja_nil))))) (ja_cons (je_tup (ja_cons je_int (ja_cons je_int (ja_cons (je_call0 (ok_l_most T) (hr.mono (by decide)) hgd rfl T.m_l_most T.F_l_most.kp (b_l_most T) (fun _ => passAt0) (@xok0 _ _ _)) (ja_cons je_int ja_nil))))) ja_nil))))) (jss_one (js_ret je_bl)) jss_nil)
    (jss_cons (js_set (i := 2) sc_law.nd rfl (Or.inl rfl) (je_call (ok_l_fraction T) (hr.mono (by decide)) hgd rfl T.m_l_fraction T.F_l_fraction.kp (b_l_fraction T) (fun _ => passAt0) (@xok0 _ _ _) (ja_cons (je_var (pv 1)) ja_nil)))
    (jss_cons (js_if (jw_pt (jw_or (jt_not (jt_of (je_call (ok_l_is_greedy_right T) (hr.mono (by decide)) hgd rfl T.m_l_is_greedy_right T.F_l_is_greedy_right.kp (b_l_is_greedy_right T) (fun _ => passAt0) (@xok0 _ _ _) (ja_cons (je_var (pv 1)) (ja_cons (je_ix jx_seq (je_var (pv 2)) je_int (fun _ _ => rfl)) (ja_cons (je_ix jx_seq (je_var (pv 2)) je_int (fun _ _ => rfl)) ja_nil)))))) (jw_or1 (jt_not (jt_of (je_call (ok_l_are_splits_right T) (hr.mono (by decide)) hgd rfl T.m_l_are_splits_right T.F_l_are_splits_right.kp (b_l_are_splits_right T) (fun _ => passAt0) (@xok0 _ _ _) (ja_cons (je_var (pv 1)) ja_nil))))))) (jss_one (js_ret je_bl)) jss_nil)
    (jss_cons (js_asg (je_call (ok_l_by_divisors T) (hr.mono (by decide)) hgd rfl T.m_l_by_divisors T.F_l_by_divisors.kp (b_l_by_divisors T) (fun _ => passAt0) (@xok0 _ _ _) (ja_cons (je_var (pv 1)) ja_nil)) (jg_tup rfl (jgs1 (jg_name (i := 3) sc_law.nd rfl (Or.inl rfl)) (jgs1 (jg_name (i := 4) sc_law.nd rfl (Or.inl rfl)) (jgs1 (jg_name (i := 5) sc_law.nd rfl (Or.inl rfl)) jgs0)))))
    (jss_cons (js_if (jt_not (jt_of (je_call (ok_l_judges T) (hr.mono (by decide)) hgd rfl T.m_l_judges T.F_l_judges.kp (b_l_judges T) (fun _ => passAt0) (@xok0 _ _ _) (ja_cons (je_var (pv 1)) (ja_cons (je_var (pv 3)) (ja_cons (je_var (pv 4)) (ja_cons (je_call (ok_l_spoilt T) (hr.mono (by decide)) hgd rfl T.m_l_spoilt T.F_l_spoilt.kp (b_l_spoilt T) (fun _ => passAt0) (@xok0 _ _ _) (ja_cons (je_var (pv 1)) (ja_cons (je_var (pv 5)) (ja_cons (je_call (ok_l_least T) (hr.mono (by decide)) hgd rfl T.m_l_least T.F_l_least.kp (b_l_least T) (fun _ => passAt0) (@xok0 _ _ _) (ja_cons (je_var (pv 3)) (ja_cons (je_var (pv 4)) ja_nil))) ja_nil)))) ja_nil))))))) (jss_one (js_ret je_bl)) jss_nil)
    (jss_cons (js_set (i := 5) sc_law.nd rfl (Or.inl rfl) (je_call (ok_l_own_units T) (hr.mono (by decide)) hgd rfl T.m_l_own_units T.F_l_own_units.kp (b_l_own_units T) (fun _ => passAt0) (@xok0 _ _ _) (ja_cons (je_var (pv 1)) ja_nil)))
    (jss_cons (js_set (i := 6) sc_law.nd rfl (Or.inl rfl) (je_call (ok_l_sum T) (hr.mono (by decide)) hgd rfl T.m_l_sum T.F_l_sum.kp (b_l_sum T) (fun _ => passAt0) (@xok0 _ _ _) (ja_cons (je_var (pv 5)) ja_nil)))
    (jss_cons (js_if (jt_not (jt_of (je_call (ok_l_judges T) (hr.mono (by decide)) hgd rfl T.m_l_judges T.F_l_judges.kp (b_l_judges T) (fun _ => passAt0) (@xok0 _ _ _) (ja_cons (je_var (pv 1)) (ja_cons (je_var (pv 3)) (ja_cons (je_var (pv 4)) (ja_cons (je_lst mok0 (ja_cons (je_tup (ja_cons (je_var (pv 5)) (ja_cons (je_var (pv 6)) ja_nil))) (ja_cons (je_tup (ja_cons (je_tup (ja_cons je_bl ja_nil)) (ja_cons je_non ja_nil))) (ja_cons (je_tup (ja_cons (je_tup (ja_cons je_int ja_nil)) (ja_cons (je_tup (ja_cons je_int (ja_cons je_int ja_nil))) ja_nil))) ja_nil)))) ja_nil))))))) (jss_one (js_ret je_bl)) jss_nil)
    (jss_cons (js_if (jt_not (jt_of (je_call (ok_l_judges T) (hr.mono (by decide)) hgd rfl T.m_l_judges T.F_l_judges.kp (b_l_judges T) (fun _ => passAt0) (@xok0 _ _ _) (ja_cons (je_var (pv 1)) (ja_cons (je_var (pv 4)) (ja_cons (je_var (pv 4)) (ja_cons (je_lst mok0 (ja_cons (je_tup (ja_cons (je_tup (ja_cons je_int ja_nil)) (ja_cons (je_tup (ja_cons je_int (ja_cons je_int ja_nil))) ja_nil))) (ja_cons (je_tup (ja_cons (je_tup (ja_cons je_bl ja_nil)) (ja_cons je_non ja_nil))) (ja_cons (je_tup (ja_cons (je_tup (ja_cons je_int ja_nil)) (ja_cons (je_tup (ja_cons je_int (ja_cons je_int ja_nil))) ja_nil))) (ja_cons (je_tup (ja_cons (je_tup (ja_cons je_int (ja_cons je_int (ja_cons je_int ja_nil)))) (ja_cons (je_tup (ja_cons je_int (ja_cons je_int ja_nil))) ja_nil))) ja_nil))))) ja_nil))))))) (jss_one (js_ret je_bl)) jss_nil)
    (jss_cons (js_set (i := 7) sc_law.nd rfl (Or.inl rfl) (je_call (ok_l_fraction T) (hr.mono (by decide)) hgd rfl T.m_l_fraction T.F_l_fraction.kp (b_l_fraction T) (fun _ => passAt0) (@xok0 _ _ _) (ja_cons (je_var (pv 1)) ja_nil)))
    (jss_cons (js_if (jt_not (jt_of (je_call (ok_l_like T 3) (hr.mono (by decide)) hgd rfl T.m_l_like T.F_l_like.kp (b_l_like T) (fun _ => passAt0) (@xok0 _ _ _) (ja_cons (je_call (ok_greedy_units T) (hr.mono (by decide)) hgd rfl T.m_greedy_units T.F_greedy_units.kp (b_greedy_units T) (fun _ => passAt0) (@xok0 _ _ _) (ja_cons (je_ix jx_seq (je_var (pv 7)) je_int (fun _ _ => rfl)) (ja_cons (je_ix jx_seq (je_var (pv 7)) je_int (fun _ _ => rfl)) ja_nil))) (ja_cons (je_call (ok_l_greedy T) (hr.mono (by decide)) hgd rfl T.m_l_greedy T.F_l_greedy.kp (b_l_greedy T) (fun _ => passAt0) (@xok0 _ _ _) (ja_cons (je_ix jx_seq (je_var (pv 7)) je_int (fun _ _ => rfl)) (ja_cons (je_ix jx_seq (je_var (pv 7)) je_int (fun _ _ => rfl)) ja_nil))) ja_nil))))) (jss_one (js_ret je_bl)) jss_nil)
    (jss_one (js_ret (je_call (ok_l_like T 3) (hr.mono (by decide)) hgd rfl T.m_l_like T.F_l_like.kp (b_l_like T) (fun _ => passAt0) (@xok0 _ _ _) (ja_cons (je_call (ok_greedy_units T) (hr.mono (by decide)) hgd rfl T.m_greedy_units T.F_greedy_units.kp (b_greedy_units T) (fun _ => passAt0) (@xok0 _ _ _) (ja_cons (je_ix jx_seq (je_var (pv 2)) je_int (fun _ _ => rfl)) (ja_cons (je_ix jx_seq (je_var (pv 2)) je_int (fun _ _ => rfl)) ja_nil))) (ja_cons (je_call (ok_l_greedy T) (hr.mono (by decide)) hgd rfl T.m_l_greedy T.F_l_greedy.kp (b_l_greedy T) (fun _ => passAt0) (@xok0 _ _ _) (ja_cons (je_ix jx_seq (je_var (pv 2)) je_int (fun _ _ => rfl)) (ja_cons (je_ix jx_seq (je_var (pv 2)) je_int (fun _ _ => rfl)) ja_nil))) ja_nil)))))))))))))))))
theorem ok_law {P : Program} {w : World} {K : PySem.W.Frag} {mg : Str → Option Value} {base : Heap} (T : Top K mg) : FnG P w K mg base CX0 7 T.f_law T.fd_law ["script"] (spOf K c_law) :=
  fn_ok0 (k := 6) T.F_law sc_law ari_law (fun cdv A outer s H E G hgd hr => d_law T hgd hr) (w_law T.cl)
theorem all_mk {l : PySem.W.OpenLaw} {w : World} {K : PySem.W.Frag} {h : Heap} {mg : Str → Option Value} {fa : Addr} (X : K.In h) (G : h.Ns mainGlobals mg) (hfa : mg "law" = some (.ref fa))
    {f0 : Addr} {od0 an0 : Option Addr} {sl0 : Array (Option Value)} {oc0 kV0 dc0 pm0 cd0 ct0 : Value} {f1 : Addr} {od1 an1 : Option Addr} {sl1 : Array (Option Value)} {oc1 kV1 dc1 pm1 cd1 ct1 : Value} {f2 : Addr} {od2 an2 : Option Addr} {sl2 : Array (Option Value)} {oc2 kV2 dc2 pm2 cd2 ct2 : Value} {f3 : Addr} {od3 an3 : Option Addr} {sl3 : Array (Option Value)} {oc3 kV3 dc3 pm3 cd3 ct3 : Value} {f4 : Addr} {od4 an4 : Option Addr} {sl4 : Array (Option Value)} {oc4 kV4 dc4 pm4 cd4 ct4 : Value} {f5 : Addr} {od5 an5 : Option Addr} {sl5 : Array (Option Value)} {oc5 kV5 dc5 pm5 cd5 ct5 : Value} {f6 : Addr} {od6 an6 : Option Addr} {sl6 : Array (Option Value)} {oc6 kV6 dc6 pm6 cd6 ct6 : Value} {f7 : Addr} {od7 an7 : Option Addr} {sl7 : Array (Option Value)} {oc7 kV7 dc7 pm7 cd7 ct7 : Value} {f8 : Addr} {od8 an8 : Option Addr} {sl8 : Array (Option Value)} {oc8 kV8 dc8 pm8 cd8 ct8 : Value} {f9 : Addr} {od9 an9 : Option Addr} {sl9 : Array (Option Value)} {oc9 kV9 dc9 pm9 cd9 ct9 : Value} {f10 : Addr} {od10 an10 : Option Addr} {sl10 : Array (Option Value)} {oc10 kV10 dc10 pm10 cd10 ct10 : Value} {f11 : Addr} {od11 an11 : Option Addr} {sl11 : Array (Option Value)} {oc11 kV11 dc11 pm11 cd11 ct11 : Value} {f12 : Addr} {od12 an12 : Option Addr} {sl12 : Array (Option Value)} {oc12 kV12 dc12 pm12 cd12 ct12 : Value} {f13 : Addr} {od13 an13 : Option Addr} {sl13 : Array (Option Value)} {oc13 kV13 dc13 pm13 cd13 ct13 : Value} {f14 : Addr} {od14 an14 : Option Addr} {sl14 : Array (Option Value)} {oc14 kV14 dc14 pm14 cd14 ct14 : Value} {f15 : Addr} {od15 an15 : Option Addr} {sl15 : Array (Option Value)} {oc15 kV15 dc15 pm15 cd15 ct15 : Value} {f16 : Addr} {od16 an16 : Option Addr} {sl16 : Array (Option Value)} {oc16 kV16 dc16 pm16 cd16 ct16 : Value} {f17 : Addr} {od17 an17 : Option Addr} {sl17 : Array (Option Value)} {oc17 kV17 dc17 pm17 cd17 ct17 : Value} {f18 : Addr} {od18 an18 : Option Addr} {sl18 : Array (Option Value)} {oc18 kV18 dc18 pm18 cd18 ct18 : Value} {f19 : Addr} {od19 an19 : Option Addr} {sl19 : Array (Option Value)} {oc19 kV19 dc19 pm19 cd19 ct19 : Value} {f20 : Addr} {od20 an20 : Option Addr} {sl20 : Array (Option Value)} {oc20 kV20 dc20 pm20 cd20 ct20 : Value} {f21 : Addr} {od21 an21 : Option Addr} {sl21 : Array (Option Value)} {oc21 kV21 dc21 pm21 cd21 ct21 : Value} {f22 : Addr} {od22 an22 : Option Addr} {sl22 : Array (Option Value)} {oc22 kV22 dc22 pm22 cd22 ct22 : Value} {f23 : Addr} {od23 an23 : Option Addr} {sl23 : Array (Option Value)} {oc23 kV23 dc23 pm23 cd23 ct23 : Value} {f24 : Addr} {od24 an24 : Option Addr} {sl24 : Array (Option Value)} {oc24 kV24 dc24 pm24 cd24 ct24 : Value} {f25 : Addr} {od25 an25 : Option Addr} {sl25 : Array (Option Value)} {oc25 kV25 dc25 pm25 cd25 ct25 : Value} {f26 : Addr} {od26 an26 : Option Addr} {sl26 : Array (Option Value)} {oc26 kV26 dc26 pm26 cd26 ct26 : Value} {f27 : Addr} {od27 an27 : Option Addr} {sl27 : Array (Option Value)} {oc27 kV27 dc27 pm27 cd27 ct27 : Value} {f28 : Addr} {od28 an28 : Option Addr} {sl28 : Array (Option Value)} {oc28 kV28 dc28 pm28 cd28 ct28 : Value} {f29 : Addr} {od29 an29 : Option Addr} {sl29 : Array (Option Value)} {oc29 kV29 dc29 pm29 cd29 ct29 : Value} {f30 : Addr} {od30 an30 : Option Addr} {sl30 : Array (Option Value)} {oc30 kV30 dc30 pm30 cd30 ct30 : Value} {t_MAX_BELOW : Tok} {t_MAX_UNIT : Tok} {t_MAX_UNITS : Tok} {t_MAX_UNIT_ITEM : Tok} {C_BaseError : Addr} {C_Unfit : Addr} {C_TooMany : Addr} {C_BadText : Addr} {C_BadWord : Addr} {C_BadLog : Addr} {C_Refused : Addr} {C_NothingToUndo : Addr} {C_NothingToRedo : Addr} {C_NoName : Addr} {C_NoVersion : Addr} 
    (a0 : PySem.W.nsIn K mainGlobals "is_number" = some (some (.ref f0))) (l0 : K.lookup f0 = some ⟨oc0, od0, .func (PySem.W.fnOf "is_number" "is_number" (defArgs s_is_number) (defBody s_is_number) (defScope s_is_number) .none kV0 dc0 pm0 an0 cd0 ct0), sl0⟩) (c0 : PySem.W.codeIn K cd0 "is_number" = true) (k0 : PySem.W.keepIn K (.ref f0) = true)
    (a1 : PySem.W.nsIn K mainGlobals "is_within" = some (some (.ref f1))) (l1 : K.lookup f1 = some ⟨oc1, od1, .func (PySem.W.fnOf "is_within" "is_within" (defArgs s_is_within) (defBody s_is_within) (defScope s_is_within) .none kV1 dc1 pm1 an1 cd1 ct1), sl1⟩) (c1 : PySem.W.codeIn K cd1 "is_within" = true) (k1 : PySem.W.keepIn K (.ref f1) = true)
    (a2 : PySem.W.nsIn K mainGlobals "in_least_terms" = some (some (.ref f2))) (l2 : K.lookup f2 = some ⟨oc2, od2, .func (PySem.W.fnOf "in_least_terms" "in_least_terms" (defArgs s_in_least_terms) (defBody s_in_least_terms) (defScope s_in_least_terms) .none kV2 dc2 pm2 an2 cd2 ct2), sl2⟩) (c2 : PySem.W.codeIn K cd2 "in_least_terms" = true) (k2 : PySem.W.keepIn K (.ref f2) = true)
    (a3 : PySem.W.nsIn K mainGlobals "greedy_units" = some (some (.ref f3))) (l3 : K.lookup f3 = some ⟨oc3, od3, .func (PySem.W.fnOf "greedy_units" "greedy_units" (defArgs s_greedy_units) (defBody s_greedy_units) (defScope s_greedy_units) .none kV3 dc3 pm3 an3 cd3 ct3), sl3⟩) (c3 : PySem.W.codeIn K cd3 "greedy_units" = true) (k3 : PySem.W.keepIn K (.ref f3) = true)
    (a4 : PySem.W.nsIn K mainGlobals "units_sum" = some (some (.ref f4))) (l4 : K.lookup f4 = some ⟨oc4, od4, .func (PySem.W.fnOf "units_sum" "units_sum" (defArgs s_units_sum) (defBody s_units_sum) (defScope s_units_sum) .none kV4 dc4 pm4 an4 cd4 ct4), sl4⟩) (c4 : PySem.W.codeIn K cd4 "units_sum" = true) (k4 : PySem.W.keepIn K (.ref f4) = true)
    (a5 : PySem.W.nsIn K mainGlobals "units_error" = some (some (.ref f5))) (l5 : K.lookup f5 = some ⟨oc5, od5, .func (PySem.W.fnOf "units_error" "units_error" (defArgs s_units_error) (defBody s_units_error) (defScope s_units_error) .none kV5 dc5 pm5 an5 cd5 ct5), sl5⟩) (c5 : PySem.W.codeIn K cd5 "units_error" = true) (k5 : PySem.W.keepIn K (.ref f5) = true)
    (a6 : PySem.W.nsIn K mainGlobals "split_unit" = some (some (.ref f6))) (l6 : K.lookup f6 = some ⟨oc6, od6, .func (PySem.W.fnOf "split_unit" "split_unit" (defArgs s_split_unit) (defBody s_split_unit) (defScope s_split_unit) .none kV6 dc6 pm6 an6 cd6 ct6), sl6⟩) (c6 : PySem.W.codeIn K cd6 "split_unit" = true) (k6 : PySem.W.keepIn K (.ref f6) = true)
    (a7 : PySem.W.nsIn K mainGlobals "_law_own_bag" = some (some (.ref f7))) (l7 : K.lookup f7 = some ⟨oc7, od7, .func (PySem.W.fnOf "_law_own_bag" "_law_own_bag" (defArgs s_l_own_bag) (defBody s_l_own_bag) (defScope s_l_own_bag) .none kV7 dc7 pm7 an7 cd7 ct7), sl7⟩) (c7 : PySem.W.codeIn K cd7 "_law_own_bag" = true) (k7 : PySem.W.keepIn K (.ref f7) = true)
    (a8 : PySem.W.nsIn K mainGlobals "_law_draw" = some (some (.ref f8))) (l8 : K.lookup f8 = some ⟨oc8, od8, .func (PySem.W.fnOf "_law_draw" "_law_draw" (defArgs s_l_draw) (defBody s_l_draw) (defScope s_l_draw) .none kV8 dc8 pm8 an8 cd8 ct8), sl8⟩) (c8 : PySem.W.codeIn K cd8 "_law_draw" = true) (k8 : PySem.W.keepIn K (.ref f8) = true)
    (a9 : PySem.W.nsIn K mainGlobals "_law_pick" = some (some (.ref f9))) (l9 : K.lookup f9 = some ⟨oc9, od9, .func (PySem.W.fnOf "_law_pick" "_law_pick" (defArgs s_l_pick) (defBody s_l_pick) (defScope s_l_pick) .none kV9 dc9 pm9 an9 cd9 ct9), sl9⟩) (c9 : PySem.W.codeIn K cd9 "_law_pick" = true) (k9 : PySem.W.keepIn K (.ref f9) = true)
    (a10 : PySem.W.nsIn K mainGlobals "_law_like" = some (some (.ref f10))) (l10 : K.lookup f10 = some ⟨oc10, od10, .func (PySem.W.fnOf "_law_like" "_law_like" (defArgs s_l_like) (defBody s_l_like) (defScope s_l_like) .none kV10 dc10 pm10 an10 cd10 ct10), sl10⟩) (c10 : PySem.W.codeIn K cd10 "_law_like" = true) (k10 : PySem.W.keepIn K (.ref f10) = true)
    (a11 : PySem.W.nsIn K mainGlobals "_law_gcd" = some (some (.ref f11))) (l11 : K.lookup f11 = some ⟨oc11, od11, .func (PySem.W.fnOf "_law_gcd" "_law_gcd" (defArgs s_l_gcd) (defBody s_l_gcd) (defScope s_l_gcd) .none kV11 dc11 pm11 an11 cd11 ct11), sl11⟩) (c11 : PySem.W.codeIn K cd11 "_law_gcd" = true) (k11 : PySem.W.keepIn K (.ref f11) = true)
    (a12 : PySem.W.nsIn K mainGlobals "_law_great" = some (some (.ref f12))) (l12 : K.lookup f12 = some ⟨oc12, od12, .func (PySem.W.fnOf "_law_great" "_law_great" (defArgs s_l_great) (defBody s_l_great) (defScope s_l_great) .none kV12 dc12 pm12 an12 cd12 ct12), sl12⟩) (c12 : PySem.W.codeIn K cd12 "_law_great" = true) (k12 : PySem.W.keepIn K (.ref f12) = true)
    (a13 : PySem.W.nsIn K mainGlobals "_law_most" = some (some (.ref f13))) (l13 : K.lookup f13 = some ⟨oc13, od13, .func (PySem.W.fnOf "_law_most" "_law_most" (defArgs s_l_most) (defBody s_l_most) (defScope s_l_most) .none kV13 dc13 pm13 an13 cd13 ct13), sl13⟩) (c13 : PySem.W.codeIn K cd13 "_law_most" = true) (k13 : PySem.W.keepIn K (.ref f13) = true)
    (a14 : PySem.W.nsIn K mainGlobals "_law_add" = some (some (.ref f14))) (l14 : K.lookup f14 = some ⟨oc14, od14, .func (PySem.W.fnOf "_law_add" "_law_add" (defArgs s_l_add) (defBody s_l_add) (defScope s_l_add) .none kV14 dc14 pm14 an14 cd14 ct14), sl14⟩) (c14 : PySem.W.codeIn K cd14 "_law_add" = true) (k14 : PySem.W.keepIn K (.ref f14) = true)
    (a15 : PySem.W.nsIn K mainGlobals "_law_sum" = some (some (.ref f15))) (l15 : K.lookup f15 = some ⟨oc15, od15, .func (PySem.W.fnOf "_law_sum" "_law_sum" (defArgs s_l_sum) (defBody s_l_sum) (defScope s_l_sum) .none kV15 dc15 pm15 an15 cd15 ct15), sl15⟩) (c15 : PySem.W.codeIn K cd15 "_law_sum" = true) (k15 : PySem.W.keepIn K (.ref f15) = true)
    (a16 : PySem.W.nsIn K mainGlobals "_law_least" = some (some (.ref f16))) (l16 : K.lookup f16 = some ⟨oc16, od16, .func (PySem.W.fnOf "_law_least" "_law_least" (defArgs s_l_least) (defBody s_l_least) (defScope s_l_least) .none kV16 dc16 pm16 an16 cd16 ct16), sl16⟩) (c16 : PySem.W.codeIn K cd16 "_law_least" = true) (k16 : PySem.W.keepIn K (.ref f16) = true)
    (a17 : PySem.W.nsIn K mainGlobals "_law_greedy" = some (some (.ref f17))) (l17 : K.lookup f17 = some ⟨oc17, od17, .func (PySem.W.fnOf "_law_greedy" "_law_greedy" (defArgs s_l_greedy) (defBody s_l_greedy) (defScope s_l_greedy) .none kV17 dc17 pm17 an17 cd17 ct17), sl17⟩) (c17 : PySem.W.codeIn K cd17 "_law_greedy" = true) (k17 : PySem.W.keepIn K (.ref f17) = true)
    (a18 : PySem.W.nsIn K mainGlobals "_law_fraction" = some (some (.ref f18))) (l18 : K.lookup f18 = some ⟨oc18, od18, .func (PySem.W.fnOf "_law_fraction" "_law_fraction" (defArgs s_l_fraction) (defBody s_l_fraction) (defScope s_l_fraction) .none kV18 dc18 pm18 an18 cd18 ct18), sl18⟩) (c18 : PySem.W.codeIn K cd18 "_law_fraction" = true) (k18 : PySem.W.keepIn K (.ref f18) = true)
    (a19 : PySem.W.nsIn K mainGlobals "_law_put_apart" = some (some (.ref f19))) (l19 : K.lookup f19 = some ⟨oc19, od19, .func (PySem.W.fnOf "_law_put_apart" "_law_put_apart" (defArgs s_l_put_apart) (defBody s_l_put_apart) (defScope s_l_put_apart) .none kV19 dc19 pm19 an19 cd19 ct19), sl19⟩) (c19 : PySem.W.codeIn K cd19 "_law_put_apart" = true) (k19 : PySem.W.keepIn K (.ref f19) = true)
    (a20 : PySem.W.nsIn K mainGlobals "_law_by_divisors" = some (some (.ref f20))) (l20 : K.lookup f20 = some ⟨oc20, od20, .func (PySem.W.fnOf "_law_by_divisors" "_law_by_divisors" (defArgs s_l_by_divisors) (defBody s_l_by_divisors) (defScope s_l_by_divisors) .none kV20 dc20 pm20 an20 cd20 ct20), sl20⟩) (c20 : PySem.W.codeIn K cd20 "_law_by_divisors" = true) (k20 : PySem.W.keepIn K (.ref f20) = true)
    (a21 : PySem.W.nsIn K mainGlobals "_law_own_units" = some (some (.ref f21))) (l21 : K.lookup f21 = some ⟨oc21, od21, .func (PySem.W.fnOf "_law_own_units" "_law_own_units" (defArgs s_l_own_units) (defBody s_l_own_units) (defScope s_l_own_units) .none kV21 dc21 pm21 an21 cd21 ct21), sl21⟩) (c21 : PySem.W.codeIn K cd21 "_law_own_units" = true) (k21 : PySem.W.keepIn K (.ref f21) = true)
    (a22 : PySem.W.nsIn K mainGlobals "_law_shape" = some (some (.ref f22))) (l22 : K.lookup f22 = some ⟨oc22, od22, .func (PySem.W.fnOf "_law_shape" "_law_shape" (defArgs s_l_shape) (defBody s_l_shape) (defScope s_l_shape) .none kV22 dc22 pm22 an22 cd22 ct22), sl22⟩) (c22 : PySem.W.codeIn K cd22 "_law_shape" = true) (k22 : PySem.W.keepIn K (.ref f22) = true)
    (a23 : PySem.W.nsIn K mainGlobals "_law_odd" = some (some (.ref f23))) (l23 : K.lookup f23 = some ⟨oc23, od23, .func (PySem.W.fnOf "_law_odd" "_law_odd" (defArgs s_l_odd) (defBody s_l_odd) (defScope s_l_odd) .none kV23 dc23 pm23 an23 cd23 ct23), sl23⟩) (c23 : PySem.W.codeIn K cd23 "_law_odd" = true) (k23 : PySem.W.keepIn K (.ref f23) = true)
    (a24 : PySem.W.nsIn K mainGlobals "_law_spoilt" = some (some (.ref f24))) (l24 : K.lookup f24 = some ⟨oc24, od24, .func (PySem.W.fnOf "_law_spoilt" "_law_spoilt" (defArgs s_l_spoilt) (defBody s_l_spoilt) (defScope s_l_spoilt) .none kV24 dc24 pm24 an24 cd24 ct24), sl24⟩) (c24 : PySem.W.codeIn K cd24 "_law_spoilt" = true) (k24 : PySem.W.keepIn K (.ref f24) = true)
    (a25 : PySem.W.nsIn K mainGlobals "_law_judges" = some (some (.ref f25))) (l25 : K.lookup f25 = some ⟨oc25, od25, .func (PySem.W.fnOf "_law_judges" "_law_judges" (defArgs s_l_judges) (defBody s_l_judges) (defScope s_l_judges) .none kV25 dc25 pm25 an25 cd25 ct25), sl25⟩) (c25 : PySem.W.codeIn K cd25 "_law_judges" = true) (k25 : PySem.W.keepIn K (.ref f25) = true)
    (a26 : PySem.W.nsIn K mainGlobals "_law_is_lone" = some (some (.ref f26))) (l26 : K.lookup f26 = some ⟨oc26, od26, .func (PySem.W.fnOf "_law_is_lone" "_law_is_lone" (defArgs s_l_is_lone) (defBody s_l_is_lone) (defScope s_l_is_lone) .none kV26 dc26 pm26 an26 cd26 ct26), sl26⟩) (c26 : PySem.W.codeIn K cd26 "_law_is_lone" = true) (k26 : PySem.W.keepIn K (.ref f26) = true)
    (a27 : PySem.W.nsIn K mainGlobals "_law_split" = some (some (.ref f27))) (l27 : K.lookup f27 = some ⟨oc27, od27, .func (PySem.W.fnOf "_law_split" "_law_split" (defArgs s_l_split) (defBody s_l_split) (defScope s_l_split) .none kV27 dc27 pm27 an27 cd27 ct27), sl27⟩) (c27 : PySem.W.codeIn K cd27 "_law_split" = true) (k27 : PySem.W.keepIn K (.ref f27) = true)
    (a28 : PySem.W.nsIn K mainGlobals "_law_are_splits_right" = some (some (.ref f28))) (l28 : K.lookup f28 = some ⟨oc28, od28, .func (PySem.W.fnOf "_law_are_splits_right" "_law_are_splits_right" (defArgs s_l_are_splits_right) (defBody s_l_are_splits_right) (defScope s_l_are_splits_right) .none kV28 dc28 pm28 an28 cd28 ct28), sl28⟩) (c28 : PySem.W.codeIn K cd28 "_law_are_splits_right" = true) (k28 : PySem.W.keepIn K (.ref f28) = true)
    (a29 : PySem.W.nsIn K mainGlobals "_law_is_greedy_right" = some (some (.ref f29))) (l29 : K.lookup f29 = some ⟨oc29, od29, .func (PySem.W.fnOf "_law_is_greedy_right" "_law_is_greedy_right" (defArgs s_l_is_greedy_right) (defBody s_l_is_greedy_right) (defScope s_l_is_greedy_right) .none kV29 dc29 pm29 an29 cd29 ct29), sl29⟩) (c29 : PySem.W.codeIn K cd29 "_law_is_greedy_right" = true) (k29 : PySem.W.keepIn K (.ref f29) = true)
    (a30 : PySem.W.nsIn K mainGlobals "law" = some (some (.ref f30))) (l30 : K.lookup f30 = some ⟨oc30, od30, .func (PySem.W.fnOf "law" "law" (defArgs s_law) (defBody s_law) (defScope s_law) .none kV30 dc30 pm30 an30 cd30 ct30), sl30⟩) (c30 : PySem.W.codeIn K cd30 "law" = true) (k30 : PySem.W.keepIn K (.ref f30) = true)
    (n_ValueError : PySem.W.nsIn K mainGlobals "ValueError" = some none)
    (n_abs : PySem.W.nsIn K mainGlobals "abs" = some none)
    (n_all : PySem.W.nsIn K mainGlobals "all" = some none)
    (n_bool : PySem.W.nsIn K mainGlobals "bool" = some none)
    (n_enumerate : PySem.W.nsIn K mainGlobals "enumerate" = some none)
    (n_int : PySem.W.nsIn K mainGlobals "int" = some none)
    (n_isinstance : PySem.W.nsIn K mainGlobals "isinstance" = some none)
    (n_len : PySem.W.nsIn K mainGlobals "len" = some none)
    (n_list : PySem.W.nsIn K mainGlobals "list" = some none)
    (n_max : PySem.W.nsIn K mainGlobals "max" = some none)
    (n_range : PySem.W.nsIn K mainGlobals "range" = some none)
    (n_repr : PySem.W.nsIn K mainGlobals "repr" = some none)
    (n_reversed : PySem.W.nsIn K mainGlobals "reversed" = some none)
    (n_sorted : PySem.W.nsIn K mainGlobals "sorted" = some none)
    (n_str : PySem.W.nsIn K mainGlobals "str" = some none)
    (n_tuple : PySem.W.nsIn K mainGlobals "tuple" = some none)
    (m_MAX_BELOW : PySem.W.nsIn K mainGlobals "MAX_BELOW" = some (some (.int 1000 t_MAX_BELOW)))
    (m_MAX_UNIT : PySem.W.nsIn K mainGlobals "MAX_UNIT" = some (some (.int 100 t_MAX_UNIT)))
    (m_MAX_UNITS : PySem.W.nsIn K mainGlobals "MAX_UNITS" = some (some (.int 20 t_MAX_UNITS)))
    (m_MAX_UNIT_ITEM : PySem.W.nsIn K mainGlobals "MAX_UNIT_ITEM" = some (some (.int 10000000000000000000000000000000000000000000000000000000000000000000000000000000000000000000000000000000000000000000000000000000000000000000000000000000000000000 t_MAX_UNIT_ITEM)))
    (g_BaseError : PySem.W.nsIn K mainGlobals "BaseError" = some (some (.ref C_BaseError)))
    (be_BaseError : PySem.W.subIn K (.ref C_BaseError) (.type "BaseException") = some true)
    (hd_BaseError : PySem.W.hasDictIn K C_BaseError = true)
    (ty_BaseError : PySem.W.typeIn K (.ref C_BaseError) = some (.type "type"))
    (g_Unfit : PySem.W.nsIn K mainGlobals "Unfit" = some (some (.ref C_Unfit)))
    (be_Unfit : PySem.W.subIn K (.ref C_Unfit) (.type "BaseException") = some true)
    (hd_Unfit : PySem.W.hasDictIn K C_Unfit = true)
    (ty_Unfit : PySem.W.typeIn K (.ref C_Unfit) = some (.type "type"))
    (g_TooMany : PySem.W.nsIn K mainGlobals "TooMany" = some (some (.ref C_TooMany)))
    (be_TooMany : PySem.W.subIn K (.ref C_TooMany) (.type "BaseException") = some true)
    (hd_TooMany : PySem.W.hasDictIn K C_TooMany = true)
    (ty_TooMany : PySem.W.typeIn K (.ref C_TooMany) = some (.type "type"))
    (g_BadText : PySem.W.nsIn K mainGlobals "BadText" = some (some (.ref C_BadText)))
    (be_BadText : PySem.W.subIn K (.ref C_BadText) (.type "BaseException") = some true)
    (hd_BadText : PySem.W.hasDictIn K C_BadText = true)
    (ty_BadText : PySem.W.typeIn K (.ref C_BadText) = some (.type "type"))
    (g_BadWord : PySem.W.nsIn K mainGlobals "BadWord" = some (some (.ref C_BadWord)))
    (be_BadWord : PySem.W.subIn K (.ref C_BadWord) (.type "BaseException") = some true)
    (hd_BadWord : PySem.W.hasDictIn K C_BadWord = true)
    (ty_BadWord : PySem.W.typeIn K (.ref C_BadWord) = some (.type "type"))
    (g_BadLog : PySem.W.nsIn K mainGlobals "BadLog" = some (some (.ref C_BadLog)))
    (be_BadLog : PySem.W.subIn K (.ref C_BadLog) (.type "BaseException") = some true)
    (hd_BadLog : PySem.W.hasDictIn K C_BadLog = true)
    (ty_BadLog : PySem.W.typeIn K (.ref C_BadLog) = some (.type "type"))
    (g_Refused : PySem.W.nsIn K mainGlobals "Refused" = some (some (.ref C_Refused)))
    (be_Refused : PySem.W.subIn K (.ref C_Refused) (.type "BaseException") = some true)
    (hd_Refused : PySem.W.hasDictIn K C_Refused = true)
    (ty_Refused : PySem.W.typeIn K (.ref C_Refused) = some (.type "type"))
    (g_NothingToUndo : PySem.W.nsIn K mainGlobals "NothingToUndo" = some (some (.ref C_NothingToUndo)))
    (be_NothingToUndo : PySem.W.subIn K (.ref C_NothingToUndo) (.type "BaseException") = some true)
    (hd_NothingToUndo : PySem.W.hasDictIn K C_NothingToUndo = true)
    (ty_NothingToUndo : PySem.W.typeIn K (.ref C_NothingToUndo) = some (.type "type"))
    (g_NothingToRedo : PySem.W.nsIn K mainGlobals "NothingToRedo" = some (some (.ref C_NothingToRedo)))
    (be_NothingToRedo : PySem.W.subIn K (.ref C_NothingToRedo) (.type "BaseException") = some true)
    (hd_NothingToRedo : PySem.W.hasDictIn K C_NothingToRedo = true)
    (ty_NothingToRedo : PySem.W.typeIn K (.ref C_NothingToRedo) = some (.type "type"))
    (g_NoName : PySem.W.nsIn K mainGlobals "NoName" = some (some (.ref C_NoName)))
    (be_NoName : PySem.W.subIn K (.ref C_NoName) (.type "BaseException") = some true)
    (hd_NoName : PySem.W.hasDictIn K C_NoName = true)
    (ty_NoName : PySem.W.typeIn K (.ref C_NoName) = some (.type "type"))
    (g_NoVersion : PySem.W.nsIn K mainGlobals "NoVersion" = some (some (.ref C_NoVersion)))
    (be_NoVersion : PySem.W.subIn K (.ref C_NoVersion) (.type "BaseException") = some true)
    (hd_NoVersion : PySem.W.hasDictIn K C_NoVersion = true)
    (ty_NoVersion : PySem.W.typeIn K (.ref C_NoVersion) = some (.type "type"))
    (xi_Unfit : PySem.W.excIn K C_Unfit [.type "ValueError", .type "Exception", .type "BaseException", .type "object"] "ValueError.__new__" = true)
    (kp_Unfit : PySem.W.keepIn K (.ref C_Unfit) = true)
    (e1_Unfit : PySem.W.findIn K (.ref C_Unfit) "__getattribute__" = some (some (.builtin "BaseException.__getattribute__")))
    (e2_Unfit : PySem.W.findIn K (.ref C_Unfit) "__getattr__" = some none)
    (e3_Unfit : PySem.W.findIn K (.ref C_Unfit) "__class__" = some (some (.builtin "object.__class__")))
    (e4_Unfit : PySem.W.mroIn K C_Unfit (.type "object") = some true)
    (sb_Unfit_BaseError : PySem.W.subIn K (.ref C_Unfit) (.ref C_BaseError) = some true)
    (e5 : PySem.W.specialIn K (.builtin "object.__class__") "__get__" = some (some (.builtin "getset_descriptor.__get__")))
    (e6 : PySem.W.takesIn K (.builtin "object.__class__") = some true)
    (is_Unfit_BadLog : PySem.W.kitOne K (.ref C_Unfit) (.ref C_BadLog) = some false)
    (is_Unfit_BadText : PySem.W.kitOne K (.ref C_Unfit) (.ref C_BadText) = some false)
    (is_Unfit_BadWord : PySem.W.kitOne K (.ref C_Unfit) (.ref C_BadWord) = some false)
    (is_Unfit_BaseError : PySem.W.kitOne K (.ref C_Unfit) (.ref C_BaseError) = some true)
    (is_Unfit_NoName : PySem.W.kitOne K (.ref C_Unfit) (.ref C_NoName) = some false)
    (is_Unfit_NoVersion : PySem.W.kitOne K (.ref C_Unfit) (.ref C_NoVersion) = some false)
    (is_Unfit_NothingToRedo : PySem.W.kitOne K (.ref C_Unfit) (.ref C_NothingToRedo) = some false)
    (is_Unfit_NothingToUndo : PySem.W.kitOne K (.ref C_Unfit) (.ref C_NothingToUndo) = some false)
    (is_Unfit_Refused : PySem.W.kitOne K (.ref C_Unfit) (.ref C_Refused) = some false)
    (is_Unfit_TooMany : PySem.W.kitOne K (.ref C_Unfit) (.ref C_TooMany) = some false)
    (is_Unfit_Unfit : PySem.W.kitOne K (.ref C_Unfit) (.ref C_Unfit) = some true)
    (is_Unfit_ValueError : PySem.W.kitOne K (.ref C_Unfit) (.type "ValueError") = some true)
    (i_gcd : PySem.W.nsIn K mainGlobals "gcd" = some (some (.builtin "math.gcd"))) :
    ∃ fd : FuncData, (∀ (s : Shared) (v : Value), BindsTo s fd ⟨[v], []⟩ [("script", v)]) ∧ ∀ base : Heap, K.In base → base.Ns mainGlobals mg → FnG l.prog w K mg base CX0 7 fa fd ["script"] (spOf K c_law) := by
  have e := (PySem.W.mg_of X G a30).symm.trans hfa
  cases e
  let T : Top K mg := {
    cl := ⟨C_BaseError, C_Unfit, C_TooMany, C_BadText, C_BadWord, C_BadLog, C_Refused, C_NothingToUndo, C_NothingToRedo, C_NoName, C_NoVersion⟩,
    g_BaseError := PySem.W.mg_of X G g_BaseError,
    g_Unfit := PySem.W.mg_of X G g_Unfit,
    g_TooMany := PySem.W.mg_of X G g_TooMany,
    g_BadText := PySem.W.mg_of X G g_BadText,
    g_BadWord := PySem.W.mg_of X G g_BadWord,
    g_BadLog := PySem.W.mg_of X G g_BadLog,
    g_Refused := PySem.W.mg_of X G g_Refused,
    g_NothingToUndo := PySem.W.mg_of X G g_NothingToUndo,
    g_NothingToRedo := PySem.W.mg_of X G g_NothingToRedo,
    g_NoName := PySem.W.mg_of X G g_NoName,
    g_NoVersion := PySem.W.mg_of X G g_NoVersion,
    xi_Unfit := xi_Unfit, kp_Unfit := kp_Unfit, be_Unfit := be_Unfit, ty_Unfit := ty_Unfit, ec_Unfit := ⟨e1_Unfit, e2_Unfit, be_Unfit, hd_Unfit, e3_Unfit, e5, e6, e4_Unfit⟩,
    ex_Unfit_BaseError := PySem.W.exm_ref be_BaseError hd_BaseError ty_BaseError sb_Unfit_BaseError,
    is_Unfit_BadLog := is_Unfit_BadLog,
    is_Unfit_BadText := is_Unfit_BadText,
    is_Unfit_BadWord := is_Unfit_BadWord,
    is_Unfit_BaseError := is_Unfit_BaseError,
    is_Unfit_NoName := is_Unfit_NoName,
    is_Unfit_NoVersion := is_Unfit_NoVersion,
    is_Unfit_NothingToRedo := is_Unfit_NothingToRedo,
    is_Unfit_NothingToUndo := is_Unfit_NothingToUndo,
    is_Unfit_Refused := is_Unfit_Refused,
    is_Unfit_TooMany := is_Unfit_TooMany,
    is_Unfit_Unfit := is_Unfit_Unfit,
    is_Unfit_ValueError := is_Unfit_ValueError,
    f_is_number := f0, fd_is_number := _, F_is_number := fun_mk (st := s_is_number) l0 c0 k0, m_is_number := PySem.W.mg_of X G a0,
    f_is_within := f1, fd_is_within := _, F_is_within := fun_mk (st := s_is_within) l1 c1 k1, m_is_within := PySem.W.mg_of X G a1,
    f_in_least_terms := f2, fd_in_least_terms := _, F_in_least_terms := fun_mk (st := s_in_least_terms) l2 c2 k2, m_in_least_terms := PySem.W.mg_of X G a2,
    f_greedy_units := f3, fd_greedy_units := _, F_greedy_units := fun_mk (st := s_greedy_units) l3 c3 k3, m_greedy_units := PySem.W.mg_of X G a3,
    f_units_sum := f4, fd_units_sum := _, F_units_sum := fun_mk (st := s_units_sum) l4 c4 k4, m_units_sum := PySem.W.mg_of X G a4,
    f_units_error := f5, fd_units_error := _, F_units_error := fun_mk (st := s_units_error) l5 c5 k5, m_units_error := PySem.W.mg_of X G a5,
    f_split_unit := f6, fd_split_unit := _, F_split_unit := fun_mk (st := s_split_unit) l6 c6 k6, m_split_unit := PySem.W.mg_of X G a6,
    f_l_own_bag := f7, fd_l_own_bag := _, F_l_own_bag := fun_mk (st := s_l_own_bag) l7 c7 k7, m_l_own_bag := PySem.W.mg_of X G a7,
    f_l_draw := f8, fd_l_draw := _, F_l_draw := fun_mk (st := s_l_draw) l8 c8 k8, m_l_draw := PySem.W.mg_of X G a8,
    f_l_pick := f9, fd_l_pick := _, F_l_pick := fun_mk (st := s_l_pick) l9 c9 k9, m_l_pick := PySem.W.mg_of X G a9,
    f_l_like := f10, fd_l_like := _, F_l_like := fun_mk (st := s_l_like) l10 c10 k10, m_l_like := PySem.W.mg_of X G a10,
    f_l_gcd := f11, fd_l_gcd := _, F_l_gcd := fun_mk (st := s_l_gcd) l11 c11 k11, m_l_gcd := PySem.W.mg_of X G a11,
    f_l_great := f12, fd_l_great := _, F_l_great := fun_mk (st := s_l_great) l12 c12 k12, m_l_great := PySem.W.mg_of X G a12,
    f_l_most := f13, fd_l_most := _, F_l_most := fun_mk (st := s_l_most) l13 c13 k13, m_l_most := PySem.W.mg_of X G a13,
    f_l_add := f14, fd_l_add := _, F_l_add := fun_mk (st := s_l_add) l14 c14 k14, m_l_add := PySem.W.mg_of X G a14,
    f_l_sum := f15, fd_l_sum := _, F_l_sum := fun_mk (st := s_l_sum) l15 c15 k15, m_l_sum := PySem.W.mg_of X G a15,
    f_l_least := f16, fd_l_least := _, F_l_least := fun_mk (st := s_l_least) l16 c16 k16, m_l_least := PySem.W.mg_of X G a16,
    f_l_greedy := f17, fd_l_greedy := _, F_l_greedy := fun_mk (st := s_l_greedy) l17 c17 k17, m_l_greedy := PySem.W.mg_of X G a17,
    f_l_fraction := f18, fd_l_fraction := _, F_l_fraction := fun_mk (st := s_l_fraction) l18 c18 k18, m_l_fraction := PySem.W.mg_of X G a18,
    f_l_put_apart := f19, fd_l_put_apart := _, F_l_put_apart := fun_mk (st := s_l_put_apart) l19 c19 k19, m_l_put_apart := PySem.W.mg_of X G a19,
    f_l_by_divisors := f20, fd_l_by_divisors := _, F_l_by_divisors := fun_mk (st := s_l_by_divisors) l20 c20 k20, m_l_by_divisors := PySem.W.mg_of X G a20,
    f_l_own_units := f21, fd_l_own_units := _, F_l_own_units := fun_mk (st := s_l_own_units) l21 c21 k21, m_l_own_units := PySem.W.mg_of X G a21,
    f_l_shape := f22, fd_l_shape := _, F_l_shape := fun_mk (st := s_l_shape) l22 c22 k22, m_l_shape := PySem.W.mg_of X G a22,
    f_l_odd := f23, fd_l_odd := _, F_l_odd := fun_mk (st := s_l_odd) l23 c23 k23, m_l_odd := PySem.W.mg_of X G a23,
    f_l_spoilt := f24, fd_l_spoilt := _, F_l_spoilt := fun_mk (st := s_l_spoilt) l24 c24 k24, m_l_spoilt := PySem.W.mg_of X G a24,
    f_l_judges := f25, fd_l_judges := _, F_l_judges := fun_mk (st := s_l_judges) l25 c25 k25, m_l_judges := PySem.W.mg_of X G a25,
    f_l_is_lone := f26, fd_l_is_lone := _, F_l_is_lone := fun_mk (st := s_l_is_lone) l26 c26 k26, m_l_is_lone := PySem.W.mg_of X G a26,
    f_l_split := f27, fd_l_split := _, F_l_split := fun_mk (st := s_l_split) l27 c27 k27, m_l_split := PySem.W.mg_of X G a27,
    f_l_are_splits_right := f28, fd_l_are_splits_right := _, F_l_are_splits_right := fun_mk (st := s_l_are_splits_right) l28 c28 k28, m_l_are_splits_right := PySem.W.mg_of X G a28,
    f_l_is_greedy_right := f29, fd_l_is_greedy_right := _, F_l_is_greedy_right := fun_mk (st := s_l_is_greedy_right) l29 c29 k29, m_l_is_greedy_right := PySem.W.mg_of X G a29,
    f_law := fa, fd_law := _, F_law := fun_mk (st := s_law) l30 c30 k30, m_law := PySem.W.mg_of X G a30,
    t_MAX_BELOW := t_MAX_BELOW, m_MAX_BELOW := PySem.W.mg_of X G m_MAX_BELOW,
    t_MAX_UNIT := t_MAX_UNIT, m_MAX_UNIT := PySem.W.mg_of X G m_MAX_UNIT,
    t_MAX_UNITS := t_MAX_UNITS, m_MAX_UNITS := PySem.W.mg_of X G m_MAX_UNITS,
    t_MAX_UNIT_ITEM := t_MAX_UNIT_ITEM, m_MAX_UNIT_ITEM := PySem.W.mg_of X G m_MAX_UNIT_ITEM,
    i_gcd := PySem.W.mg_of X G i_gcd,
    n_ValueError := PySem.W.mg_none_of X G n_ValueError,
    n_abs := PySem.W.mg_none_of X G n_abs,
    n_all := PySem.W.mg_none_of X G n_all,
    n_bool := PySem.W.mg_none_of X G n_bool,
    n_enumerate := PySem.W.mg_none_of X G n_enumerate,
    n_int := PySem.W.mg_none_of X G n_int,
    n_isinstance := PySem.W.mg_none_of X G n_isinstance,
    n_len := PySem.W.mg_none_of X G n_len,
    n_list := PySem.W.mg_none_of X G n_list,
    n_max := PySem.W.mg_none_of X G n_max,
    n_range := PySem.W.mg_none_of X G n_range,
    n_repr := PySem.W.mg_none_of X G n_repr,
    n_reversed := PySem.W.mg_none_of X G n_reversed,
    n_sorted := PySem.W.mg_none_of X G n_sorted,
    n_str := PySem.W.mg_none_of X G n_str,
    n_tuple := PySem.W.mg_none_of X G n_tuple }
  exact ⟨T.fd_law, fun s v => .of_eq rfl, fun base _ _ => ok_law T⟩
end KK
open PySem PySem.W PyProof.Rows in
set_option maxRecDepth 100000 in
set_option maxHeartbeats 0 in
theorem PySem.Challenge.cw_manybases_k91_whole_greedy_ends_holds : PySem.Challenge.rw_manybases_k91_whole_greedy_ends.Holds := by
  w_on; o_law; k_head; (case hw => w_witness2)
  k_fill
  refine Z.walk (l := PySem.Challenge.rw_manybases_k91_whole_greedy_ends) (n := 63) (k := 7) (x := "script") rfl rfl (fun w h Y => PySem.W.kIn_of Y) ⟨rfl, by decide +kernel, by decide +kernel⟩ (by decide) ?F
  case F =>
    intro w mg fa h KX G hmg
    refine' KK.all_mk KX G hmg ?a0 ?l0 ?c0 ?k0 ?a1 ?l1 ?c1 ?k1 ?a2 ?l2 ?c2 ?k2 ?a3 ?l3 ?c3 ?k3 ?a4 ?l4 ?c4 ?k4 ?a5 ?l5 ?c5 ?k5 ?a6 ?l6 ?c6 ?k6 ?a7 ?l7 ?c7 ?k7 ?a8 ?l8 ?c8 ?k8 ?a9 ?l9 ?c9 ?k9 ?a10 ?l10 ?c10 ?k10 ?a11 ?l11 ?c11 ?k11 ?a12 ?l12 ?c12 ?k12 ?a13 ?l13 ?c13 ?k13 ?a14 ?l14 ?c14 ?k14 ?a15 ?l15 ?c15 ?k15 ?a16 ?l16 ?c16 ?k16 ?a17 ?l17 ?c17 ?k17 ?a18 ?l18 ?c18 ?k18 ?a19 ?l19 ?c19 ?k19 ?a20 ?l20 ?c20 ?k20 ?a21 ?l21 ?c21 ?k21 ?a22 ?l22 ?c22 ?k22 ?a23 ?l23 ?c23 ?k23 ?a24 ?l24 ?c24 ?k24 ?a25 ?l25 ?c25 ?k25 ?a26 ?l26 ?c26 ?k26 ?a27 ?l27 ?c27 ?k27 ?a28 ?l28 ?c28 ?k28 ?a29 ?l29 ?c29 ?k29 ?a30 ?l30 ?c30 ?k30 ?n_ValueError ?n_abs ?n_all ?n_bool ?n_enumerate ?n_int ?n_isinstance ?n_len ?n_list ?n_max ?n_range ?n_repr ?n_reversed ?n_sorted ?n_str ?n_tuple ?m_MAX_BELOW ?m_MAX_UNIT ?m_MAX_UNITS ?m_MAX_UNIT_ITEM ?g_BaseError ?be_BaseError ?hd_BaseError ?ty_BaseError ?g_Unfit ?be_Unfit ?hd_Unfit ?ty_Unfit ?g_TooMany ?be_TooMany ?hd_TooMany ?ty_TooMany ?g_BadText ?be_BadText ?hd_BadText ?ty_BadText ?g_BadWord ?be_BadWord ?hd_BadWord ?ty_BadWord ?g_BadLog ?be_BadLog ?hd_BadLog ?ty_BadLog ?g_Refused ?be_Refused ?hd_Refused ?ty_Refused ?g_NothingToUndo ?be_NothingToUndo ?hd_NothingToUndo ?ty_NothingToUndo ?g_NothingToRedo ?be_NothingToRedo ?hd_NothingToRedo ?ty_NothingToRedo ?g_NoName ?be_NoName ?hd_NoName ?ty_NoName ?g_NoVersion ?be_NoVersion ?hd_NoVersion ?ty_NoVersion ?xi_Unfit ?kp_Unfit ?e1_Unfit ?e2_Unfit ?e3_Unfit ?e4_Unfit ?sb_Unfit_BaseError ?e5 ?e6 ?is_Unfit_BadLog ?is_Unfit_BadText ?is_Unfit_BadWord ?is_Unfit_BaseError ?is_Unfit_NoName ?is_Unfit_NoVersion ?is_Unfit_NothingToRedo ?is_Unfit_NothingToUndo ?is_Unfit_Refused ?is_Unfit_TooMany ?is_Unfit_Unfit ?is_Unfit_ValueError ?i_gcd
    (case a0 => k_is)
    (case l0 => k_is)
    (case c0 => k_is)
    (case k0 => k_is)
    (case a1 => k_is)
    (case l1 => k_is)
    (case c1 => k_is)
    (case k1 => k_is)
    (case a2 => k_is)
    (case l2 => k_is)
    (case c2 => k_is)
    (case k2 => k_is)
    (case a3 => k_is)
    (case l3 => k_is)
    (case c3 => k_is)
    (case k3 => k_is)
    (case a4 => k_is)
    (case l4 => k_is)
    (case c4 => k_is)
    (case k4 => k_is)
    (case a5 => k_is)
    (case l5 => k_is)
    (case c5 => k_is)
    (case k5 => k_is)
    (case a6 => k_is)
    (case l6 => k_is)
    (case c6 => k_is)
    (case k6 => k_is)
    (case a7 => k_is)
    (case l7 => k_is)
    (case c7 => k_is)
    (case k7 => k_is)
    (case a8 => k_is)
    (case l8 => k_is)
    (case c8 => k_is)
    (case k8 => k_is)
    (case a9 => k_is)
    (case l9 => k_is)
    (case c9 => k_is)
    (case k9 => k_is)
    (case a10 => k_is)
    (case l10 => k_is)
    (case c10 => k_is)
    (case k10 => k_is)
    (case a11 => k_is)
    (case l11 => k_is)
    (case c11 => k_is)
    (case k11 => k_is)
    (case a12 => k_is)
    (case l12 => k_is)
    (case c12 => k_is)
    (case k12 => k_is)
    (case a13 => k_is)
    (case l13 => k_is)
    (case c13 => k_is)
    (case k13 => k_is)
    (case a14 => k_is)
    (case l14 => k_is)
    (case c14 => k_is)
    (case k14 => k_is)
    (case a15 => k_is)
    (case l15 => k_is)
    (case c15 => k_is)
    (case k15 => k_is)
    (case a16 => k_is)
    (case l16 => k_is)
    (case c16 => k_is)
    (case k16 => k_is)
    (case a17 => k_is)
    (case l17 => k_is)
    (case c17 => k_is)
    (case k17 => k_is)
    (case a18 => k_is)
    (case l18 => k_is)
    (case c18 => k_is)
    (case k18 => k_is)
    (case a19 => k_is)
    (case l19 => k_is)
    (case c19 => k_is)
    (case k19 => k_is)
    (case a20 => k_is)
    (case l20 => k_is)
    (case c20 => k_is)
    (case k20 => k_is)
    (case a21 => k_is)
    (case l21 => k_is)
    (case c21 => k_is)
    (case k21 => k_is)
    (case a22 => k_is)
    (case l22 => k_is)
    (case c22 => k_is)
    (case k22 => k_is)
    (case a23 => k_is)
    (case l23 => k_is)
    (case c23 => k_is)
    (case k23 => k_is)
    (case a24 => k_is)
    (case l24 => k_is)
    (case c24 => k_is)
    (case k24 => k_is)
    (case a25 => k_is)
    (case l25 => k_is)
    (case c25 => k_is)
    (case k25 => k_is)
    (case a26 => k_is)
    (case l26 => k_is)
    (case c26 => k_is)
    (case k26 => k_is)
    (case a27 => k_is)
    (case l27 => k_is)
    (case c27 => k_is)
    (case k27 => k_is)
    (case a28 => k_is)
    (case l28 => k_is)
    (case c28 => k_is)
    (case k28 => k_is)
    (case a29 => k_is)
    (case l29 => k_is)
    (case c29 => k_is)
    (case k29 => k_is)
    (case a30 => k_is)
    (case l30 => k_is)
    (case c30 => k_is)
    (case k30 => k_is)
    (case n_ValueError => k_is)
    (case n_abs => k_is)
    (case n_all => k_is)
    (case n_bool => k_is)
    (case n_enumerate => k_is)
    (case n_int => k_is)
    (case n_isinstance => k_is)
    (case n_len => k_is)
    (case n_list => k_is)
    (case n_max => k_is)
    (case n_range => k_is)
    (case n_repr => k_is)
    (case n_reversed => k_is)
    (case n_sorted => k_is)
    (case n_str => k_is)
    (case n_tuple => k_is)
    (case m_MAX_BELOW => k_is)
    (case m_MAX_UNIT => k_is)
    (case m_MAX_UNITS => k_is)
    (case m_MAX_UNIT_ITEM => k_is)
    (case g_BaseError => k_is)
    (case be_BaseError => k_is)
    (case hd_BaseError => k_is)
    (case ty_BaseError => k_is)
    (case g_Unfit => k_is)
    (case be_Unfit => k_is)
    (case hd_Unfit => k_is)
    (case ty_Unfit => k_is)
    (case g_TooMany => k_is)
    (case be_TooMany => k_is)
    (case hd_TooMany => k_is)
    (case ty_TooMany => k_is)
    (case g_BadText => k_is)
    (case be_BadText => k_is)
    (case hd_BadText => k_is)
    (case ty_BadText => k_is)
    (case g_BadWord => k_is)
    (case be_BadWord => k_is)
    (case hd_BadWord => k_is)
    (case ty_BadWord => k_is)
    (case g_BadLog => k_is)
    (case be_BadLog => k_is)
    (case hd_BadLog => k_is)
    (case ty_BadLog => k_is)
    (case g_Refused => k_is)
    (case be_Refused => k_is)
    (case hd_Refused => k_is)
    (case ty_Refused => k_is)
    (case g_NothingToUndo => k_is)
    (case be_NothingToUndo => k_is)
    (case hd_NothingToUndo => k_is)
    (case ty_NothingToUndo => k_is)
    (case g_NothingToRedo => k_is)
    (case be_NothingToRedo => k_is)
    (case hd_NothingToRedo => k_is)
    (case ty_NothingToRedo => k_is)
    (case g_NoName => k_is)
    (case be_NoName => k_is)
    (case hd_NoName => k_is)
    (case ty_NoName => k_is)
    (case g_NoVersion => k_is)
    (case be_NoVersion => k_is)
    (case hd_NoVersion => k_is)
    (case ty_NoVersion => k_is)
    (case xi_Unfit => k_exc)
    (case kp_Unfit => k_is)
    (case e1_Unfit => k_is)
    (case e2_Unfit => k_is)
    (case e3_Unfit => k_is)
    (case e4_Unfit => k_is)
    (case sb_Unfit_BaseError => first | rfl | k_is)
    (case e5 => k_is)
    (case e6 => k_is)
    (case is_Unfit_BadLog => first | k_is | rfl)
    (case is_Unfit_BadText => first | k_is | rfl)
    (case is_Unfit_BadWord => first | k_is | rfl)
    (case is_Unfit_BaseError => first | k_is | rfl)
    (case is_Unfit_NoName => first | k_is | rfl)
    (case is_Unfit_NoVersion => first | k_is | rfl)
    (case is_Unfit_NothingToRedo => first | k_is | rfl)
    (case is_Unfit_NothingToUndo => first | k_is | rfl)
    (case is_Unfit_Refused => first | k_is | rfl)
    (case is_Unfit_TooMany => first | k_is | rfl)
    (case is_Unfit_Unfit => first | k_is | rfl)
    (case is_Unfit_ValueError => first | k_is | rfl)
    (case i_gcd => k_is)
