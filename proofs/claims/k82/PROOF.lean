import PyProof.Rows.All
import Wide.All
import OpenK.AllK
import Wide.FinOn
import HandS.ForMost
import HandS.Wide
import HandS.EndBits
import HandS.RaiseMore
import HandS.IsInst
import HandS.Conv
import HandS.WordsExc
import HandS.TupAny
import HandS.WideBits
import HandS.Deep
import HandS.SortInts
import HandS.Gcd
import HandS.Style
import HandS.Zip
import HandS.Rev
import HandS.HotCalls
import HandS.ExcIs
import HandS.TupMul
import HandS.Iter
import HandS.Dict
import PyProof.EnumMake
import PyProof.TupleIter
import PyProof.Rows.Digits
import PyProof.FitsInt
import PyProof.StrLawsRepr
import PySem.Challenge.RW_manybases_k82_whole_main_broken_words
set_option Elab.async false
set_option linter.all false
set_option maxRecDepth 100000
set_option maxHeartbeats 4000000
/-! Z1: a layer over data: slots hold data (PyData) or raw values, what is mutable lies in a list of cells. -/
namespace Z
open PySem PySem.Spec PyProof.Rows L2
/-! ### values, cells, states -/
/-- data (lists in it are objects of our own that never change again); a list that is only read (the script); any other value, raw -/
inductive SV where
  | d (x : PyData)
  | l (xs : List PyData)
  | r (v : V)
inductive OC where
  | lst (xs : List PyData)
  | lx (xs : List SV)
  | dk (kvs : List (Key × SV))
  | dt (kvs : List (List Key × SV))
  | raw (o : HO)
abbrev Rho := List (Option SV)
abbrev Om := List (Addr × OC)
abbrev Frag := PySem.W.Frag
theorem sqt_same {K : Frag} {H H' : Hp} {a : Addr} {xs : List V} (e : Same H H') (h : SqT K H a xs) : SqT K H' a xs := by
  rcases h with (h | ⟨o, h⟩) | h
  · exact Or.inl (Or.inl (e _ _ h))
  · exact Or.inl (Or.inr ⟨o, e _ _ h⟩)
  · exact Or.inr h
/-- a key as data -/
def keyD : Key → PyData
  | .inl i => .int i
  | .inr x => .str x
mutual
/-- v is data d in F: as Dp, but a list is an object that F tracks itself -/
inductive Dq (K : Frag) (F : Hp) : V → PyData → Prop
  | non : Dq K F .non .none
  | bl (b : Bool) : Dq K F (.bl b) (.bool b)
  | int (i : Int) : Dq K F (.int i) (.int i)
  | str (x : Str) : Dq K F (.str x) (.str x)
  | lst {a : Addr} {xs : List V} {ds : List PyData} : F a = some (.lst xs) → DqAll K F xs ds → Dq K F (.ref a) (.list ds)
  | tup {a : Addr} {xs : List V} {ds : List PyData} : SqT K F a xs → DqAll K F xs ds → Dq K F (.ref a) (.tuple ds)
  | dct {a : Addr} {kvs : List (Key × V)} {ds : List (PyData × PyData)} : F a = some (.dK kvs) → DqKv K F kvs ds → Dq K F (.ref a) (.dict ds)
inductive DqAll (K : Frag) (F : Hp) : List V → List PyData → Prop
  | nil : DqAll K F [] []
  | cons {v : V} {vs : List V} {d : PyData} {ds : List PyData} : Dq K F v d → DqAll K F vs ds → DqAll K F (v :: vs) (d :: ds)
inductive DqKv (K : Frag) (F : Hp) : List (Key × V) → List (PyData × PyData) → Prop
  | nil : DqKv K F [] []
  | cons {k : Key} {v : V} {kvs : List (Key × V)} {d : PyData} {ds : List (PyData × PyData)} : Dq K F v d → DqKv K F kvs ds → DqKv K F ((k, v) :: kvs) ((keyD k, d) :: ds)
end
mutual
theorem dq_same {K : Frag} {H H' : Hp} (e : Same H H') : ∀ (d : PyData) (v : V), Dq K H v d → Dq K H' v d
  | .none, _, h => by cases h; exact .non
  | .bool b, _, h => by cases h; exact .bl b
  | .int i, _, h => by cases h; exact .int i
  | .str x, _, h => by cases h; exact .str x
  | .list ds, _, h => by
    cases h with
    | lst hs ha => exact .lst (e _ _ hs) (dqa_same e ds _ ha)
  | .tuple ds, _, h => by
    cases h with
    | tup hs ha => exact .tup (sqt_same e hs) (dqa_same e ds _ ha)
  | .dict ds, _, h => by
    cases h with
    | dct hs ha => exact .dct (e _ _ hs) (dqkv_same e ds _ ha)
theorem dqa_same {K : Frag} {H H' : Hp} (e : Same H H') : ∀ (ds : List PyData) (vs : List V), DqAll K H vs ds → DqAll K H' vs ds
  | [], _, h => by cases h; exact .nil
  | d :: ds, _, h => by
    cases h with
    | cons h1 h2 => exact .cons (dq_same e d _ h1) (dqa_same e ds _ h2)
theorem dqkv_same {K : Frag} {H H' : Hp} (e : Same H H') : ∀ (ds : List (PyData × PyData)) (vs : List (Key × V)), DqKv K H vs ds → DqKv K H' vs ds
  | [], _, h => by cases h; exact .nil
  | (_, d) :: ds, _, h => by
    cases h with
    | cons h1 h2 => exact .cons (dq_same e d _ h1) (dqkv_same e ds _ h2)
end
mutual
theorem Dq.dp {K : Frag} {H : Hp} : ∀ (d : PyData) (v : V), Dq K H v d → d.hasDict = false → Dp K H v d
  | .none, _, h, _ => by cases h; exact .non
  | .bool b, _, h, _ => by cases h; exact .bl b
  | .int i, _, h, _ => by cases h; exact .int i
  | .str x, _, h, _ => by cases h; exact .str x
  | .list ds, _, h, n => by
    cases h with
    | lst hs ha => exact .lst (SqL.of hs) (DqAll.dp ds _ ha (by rw [PyData.hasDict] at n; exact n))
  | .tuple ds, _, h, n => by
    cases h with
    | tup hs ha => exact .tup hs (DqAll.dp ds _ ha (by rw [PyData.hasDict] at n; exact n))
  | .dict _, _, h, n => by simp [PyData.hasDict] at n
theorem DqAll.dp {K : Frag} {H : Hp} : ∀ (ds : List PyData) (vs : List V), DqAll K H vs ds → PyData.hasDictAll ds = false → DpAll K H vs ds
  | [], _, h, _ => by cases h; exact .nil
  | d :: ds, _, h, n => by
    rw [PyData.hasDictAll, Bool.or_eq_false_iff] at n
    cases h with
    | cons h1 h2 => exact .cons (Dq.dp d _ h1 n.1) (DqAll.dp ds _ h2 n.2)
end
theorem dqi {K : Frag} {F : Hp} {v : V} {i : Int} (h : Dq K F v (.int i)) : v = .int i := by cases h; rfl
theorem dqb {K : Frag} {F : Hp} {v : V} {b : Bool} (h : Dq K F v (.bool b)) : v = .bl b := by cases h; rfl
theorem dqs {K : Frag} {F : Hp} {v : V} {x : Str} (h : Dq K F v (.str x)) : v = .str x := by cases h; rfl
theorem dqn {K : Frag} {F : Hp} {v : V} (h : Dq K F v .none) : v = .non := by cases h; rfl
theorem dql {K : Frag} {F : Hp} {v : V} {ds : List PyData} (h : Dq K F v (.list ds)) : ∃ a xs, v = .ref a ∧ F a = some (.lst xs) ∧ DqAll K F xs ds := by cases h with | lst hs ha => exact ⟨_, _, rfl, hs, ha⟩
theorem dqt {K : Frag} {F : Hp} {v : V} {ds : List PyData} (h : Dq K F v (.tuple ds)) : ∃ a xs, v = .ref a ∧ SqT K F a xs ∧ DqAll K F xs ds := by cases h with | tup hs ha => exact ⟨_, _, rfl, hs, ha⟩
mutual
/-- a list is somewhere in it -/
def hasList : PyData → Bool
  | .list _ => true
  | .tuple xs => hasListAll xs
  | .dict kvs => hasListKv kvs
  | _ => false
def hasListAll : List PyData → Bool
  | [] => false
  | x :: xs => hasList x || hasListAll xs
def hasListKv : List (PyData × PyData) → Bool
  | [] => false
  | (_, v) :: r => hasList v || hasListKv r
end
def Rp (K : Frag) (F : Hp) (v : V) : SV → Prop
  | .d x => Dq K F v x
  | .l ds => ∃ a xs, v = .ref a ∧ SqL K F a xs ∧ DqAll K F xs ds
  | .r u => v = u
theorem Rp.same {K : Frag} {F F' : Hp} (e : Same F F') : ∀ {v : V} {s : SV}, Rp K F v s → Rp K F' v s
  | v, .d x, h => dq_same e x v h
  | _, .l ds, ⟨a, xs, h1, h2, h3⟩ => ⟨a, xs, h1, e.seq h2, dqa_same e ds xs h3⟩
  | _, .r _, h => h
def RpO (K : Frag) (F : Hp) : HO → OC → Prop
  | .lst vs, .lst xs => DqAll K F vs xs
  | .lst vs, .lx xs => Paired (Rp K F) vs xs
  | .dK kvs, .dk ys => Paired (fun p q => p.1 = q.1 ∧ Rp K F p.2 q.2) kvs ys
  | .dT kvs, .dt ys => Paired (fun p q => p.1 = q.1 ∧ Rp K F p.2 q.2) kvs ys
  | o, .raw o' => o = o'
  | _, _ => False
theorem RpO.same {K : Frag} {F F' : Hp} (e : Same F F') {o : HO} {c : OC} (h : RpO K F o c) : RpO K F' o c := by
  unfold RpO at h ⊢
  split at h
  · exact dqa_same e _ _ h
  · exact Paired.mapP h fun _ _ q => q.same e
  · exact Paired.mapP h fun _ _ q => ⟨q.1, q.2.same e⟩
  · exact Paired.mapP h fun _ _ q => ⟨q.1, q.2.same e⟩
  · exact h
  · exact h.elim
def RpS (K : Frag) (F : Hp) (o : Option V) : Option SV → Prop
  | none => True
  | some x => ∃ v, o = some v ∧ Rp K F v x
abbrev RpE (K : Frag) (F : Hp) : L2.St → Rho → Prop := Paired (RpS K F)
theorem RpS.same {K : Frag} {F F' : Hp} (e : Same F F') : ∀ {o : Option V} {s : Option SV}, RpS K F o s → RpS K F' o s
  | _, none, _ => trivial
  | _, some _, ⟨v, h, q⟩ => ⟨v, h, q.same e⟩
theorem rpe_same {K : Frag} {F F' : Hp} (e : Same F F') {σ : L2.St} {ρ : Rho} (h : RpE K F σ ρ) : RpE K F' σ ρ := Paired.mapP h fun _ _ q => q.same e
theorem rps_same {K : Frag} {F F' : Hp} (e : Same F F') {σ : List V} {ρ : List SV} (h : Paired (Rp K F) σ ρ) : Paired (Rp K F') σ ρ := Paired.mapP h fun _ _ q => q.same e
theorem rpe_get {K : Frag} {F : Hp} : ∀ {σ : L2.St} {ρ : Rho} {i : Nat} {x : SV}, RpE K F σ ρ → ρ[i]? = some (some x) → ∃ v, σ[i]? = some (some v) ∧ Rp K F v x
  | _, _, _, _, .nil, e => by simp at e
  | _, _, 0, x, .cons r _, e => by
    simp at e; subst e
    obtain ⟨v, rfl, q⟩ := r
    exact ⟨v, rfl, q⟩
  | _, _, i + 1, x, .cons _ t, e => by
    obtain ⟨v, h1, h2⟩ := rpe_get (i := i) (x := x) t (by simpa using e)
    exact ⟨v, by simpa using h1, h2⟩
theorem pr_set {α β : Type} {R : α → β → Prop} {x : α} {y : β} (r : R x y) : ∀ {l : List α} {m : List β} (i : Nat), Paired R l m → Paired R (l.set i x) (m.set i y)
  | _, _, _, .nil => .nil
  | _, _, 0, .cons _ t => .cons r t
  | _, _, i + 1, .cons q t => .cons q (pr_set r i t)
theorem pr_app {α β : Type} {R : α → β → Prop} : ∀ {l l' : List α} {m m' : List β}, Paired R l m → Paired R l' m' → Paired R (l ++ l') (m ++ m')
  | _, _, _, _, .nil, s => s
  | _, _, _, _, .cons r t, s => .cons r (pr_app t s)
theorem pr_take {α β : Type} {R : α → β → Prop} : ∀ {l : List α} {m : List β} (n : Nat), Paired R l m → Paired R (l.take n) (m.take n)
  | _, _, 0, _ => .nil
  | _, _, _ + 1, .nil => .nil
  | _, _, n + 1, .cons r t => .cons r (pr_take n t)
theorem pr_drop {α β : Type} {R : α → β → Prop} : ∀ {l : List α} {m : List β} (n : Nat), Paired R l m → Paired R (l.drop n) (m.drop n)
  | _, _, 0, r => r
  | _, _, _ + 1, .nil => .nil
  | _, _, n + 1, .cons _ t => pr_drop n t
theorem pr_get {α β : Type} {R : α → β → Prop} : ∀ {l : List α} {m : List β} {i : Nat} {y : β}, Paired R l m → m[i]? = some y → ∃ x, l[i]? = some x ∧ R x y
  | _, _, _, _, .nil, e => by simp at e
  | _, _, 0, y, .cons r _, e => by simp at e; subst e; exact ⟨_, rfl, r⟩
  | _, _, i + 1, y, .cons _ t, e => by
    obtain ⟨v, h1, h2⟩ := pr_get (i := i) (y := y) t (by simpa using e)
    exact ⟨v, by simpa using h1, h2⟩
theorem pr_getL {α β : Type} {R : α → β → Prop} : ∀ {l : List α} {m : List β} {i : Nat} {x : α}, Paired R l m → l[i]? = some x → ∃ y, m[i]? = some y ∧ R x y
  | _, _, _, _, .nil, e => by simp at e
  | _, _, 0, y, .cons r _, e => by simp at e; subst e; exact ⟨_, rfl, r⟩
  | _, _, i + 1, y, .cons _ t, e => by
    obtain ⟨v, h1, h2⟩ := pr_getL (i := i) (x := y) t (by simpa using e)
    exact ⟨v, by simpa using h1, h2⟩
theorem pr_rev {α β : Type} {R : α → β → Prop} : ∀ {l : List α} {m : List β}, Paired R l m → Paired R l.reverse m.reverse
  | _, _, .nil => .nil
  | _, _, .cons r t => by
    rw [List.reverse_cons, List.reverse_cons]
    exact pr_app (pr_rev t) (.cons r .nil)
theorem pr_erase {α β : Type} {R : α → β → Prop} : ∀ {l : List α} {m : List β} (n : Nat), Paired R l m → Paired R (l.eraseIdx n) (m.eraseIdx n)
  | _, _, _, .nil => .nil
  | _, _, 0, .cons _ t => t
  | _, _, n + 1, .cons r t => .cons r (pr_erase n t)
theorem pr_dropLast {α β : Type} {R : α → β → Prop} {l : List α} {m : List β} (h : Paired R l m) : Paired R l.dropLast m.dropLast := by
  rw [List.dropLast_eq_take, List.dropLast_eq_take, h.length]
  exact pr_take _ h
/-- data lists -/
theorem dqa_of {K : Frag} {F : Hp} : ∀ {vs : List V} {ds : List PyData}, Paired (Rp K F) vs (ds.map SV.d) → DqAll K F vs ds
  | _, [], h => by cases h; exact .nil
  | _, d :: ds, h => by
    cases h with
    | cons r t => exact .cons r (dqa_of t)
theorem of_dqa {K : Frag} {F : Hp} : ∀ {vs : List V} {ds : List PyData}, DqAll K F vs ds → Paired (Rp K F) vs (ds.map SV.d)
  | _, [], h => by cases h; exact .nil
  | _, d :: ds, h => by
    cases h with
    | cons r t => exact .cons r (of_dqa t)
theorem dqa_len {K : Frag} {F : Hp} {vs : List V} {ds : List PyData} (h : DqAll K F vs ds) : vs.length = ds.length := by
  have q := (of_dqa h).length
  rw [List.length_map] at q
  exact q
/-! ### the entry of a def, and the state -/
structure Gn where
  F0 : Hp
  H0 : Hp
  P0 : Hp
structure En extends Gn where
  K : Frag
/-- P: what is left alone; F: what is frozen (data rests on it); Ω: the cells, apart from both -/
structure Ok (E : En) (P F H : Hp) (Ω : Om) : Prop where
  p0 : Same E.P0 P
  pf : Same P H
  pd : ∀ p ∈ Ω, P p.1 = none
  pF : ∀ a, P a ≠ none → F a = none
  f0 : Same E.F0 F
  fn : ∀ a, F a ≠ none → E.F0 a = none → E.H0 a = none
  dm : ∀ a, H a = none → E.H0 a = none
  ex : Same F H
  own : ∀ p ∈ Ω, F p.1 = none ∧ ∃ o, H p.1 = some o ∧ RpO E.K F o p.2
  nd : (Ω.map (·.1)).Nodup
section
variable {E : En} {P F H : Hp} {Ω : Om}
theorem Ok.free (h : Ok E P F H Ω) {a : Addr} (e : H a = none) : F a = none := h.ex.free e
/-- a new object, frozen at once -/
theorem Ok.newF (h : Ok E P F H Ω) {p : Addr} {o : HO} (e : H p = none) : Ok E P (upd F p o) (upd H p o) Ω ∧ Same F (upd F p o) := by
  have sF : Same F (upd F p o) := fun b u q => by rw [upd_ne (ne_of_none q (h.free e))]; exact q
  refine ⟨⟨h.p0, fun b u q => by rw [upd_ne (ne_of_none (h.pf b u q) e)]; exact h.pf b u q, h.pd, fun a q => by rw [upd_ne (fun z => q (by rw [z]; exact h.pf.free e))]; exact h.pF a q, h.f0.trans sF, fun a q z => ?_, fun a q => ?_, fun b u q => ?_, fun x hx => ?_, h.nd⟩, sF⟩
  · by_cases ha : a = p
    · rw [ha]; exact h.dm p e
    · rw [upd_ne ha] at q; exact h.fn a q z
  · by_cases ha : a = p
    · rw [ha]; exact h.dm p e
    · rw [upd_ne ha] at q; exact h.dm a q
  · by_cases hb : b = p
    · rw [hb] at q ⊢; rw [upd_same] at q ⊢; exact q
    · rw [upd_ne hb] at q ⊢; exact h.ex b u q
  · obtain ⟨h1, u, h2, h3⟩ := h.own x hx
    have ne : x.1 ≠ p := ne_of_none h2 e
    exact ⟨by rw [upd_ne ne]; exact h1, u, by rw [upd_ne ne]; exact h2, h3.same sF⟩
/-- a new object, a cell -/
theorem Ok.newO (h : Ok E P F H Ω) {p : Addr} {o : HO} {c : OC} (e : H p = none) (r : RpO E.K F o c) : Ok E P F (upd H p o) ((p, c) :: Ω) := by
  have nF := h.free e
  refine ⟨h.p0, fun b u q => by rw [upd_ne (ne_of_none (h.pf b u q) e)]; exact h.pf b u q, fun x hx => ?_, h.pF, h.f0, h.fn, fun a q => ?_, fun b u q => ?_, fun x hx => ?_, ?_⟩
  · rcases List.mem_cons.mp hx with rfl | hx
    · exact h.pf.free e
    · exact h.pd x hx
  · by_cases ha : a = p
    · rw [ha]; exact h.dm p e
    · rw [upd_ne ha] at q; exact h.dm a q
  · rw [upd_ne (ne_of_none q nF)]; exact h.ex b u q
  · rcases List.mem_cons.mp hx with rfl | hx
    · exact ⟨nF, o, upd_same, r⟩
    · obtain ⟨h1, u, h2, h3⟩ := h.own x hx
      exact ⟨h1, u, by rw [upd_ne (ne_of_none h2 e)]; exact h2, h3⟩
  · rw [List.map_cons]
    refine List.nodup_cons.mpr ⟨fun hm => ?_, h.nd⟩
    obtain ⟨x, hx, hp⟩ := List.mem_map.mp hm
    obtain ⟨_, u, h2, _⟩ := h.own x hx
    rw [hp, e] at h2
    cases h2
/-- a new object that nothing is to know -/
theorem Ok.newX (h : Ok E P F H Ω) {p : Addr} {o : HO} (e : H p = none) : Ok E P F (upd H p o) Ω := by
  have k := h.newO (c := .raw o) e (show RpO E.K F o (.raw o) by cases o <;> rfl)
  exact ⟨k.p0, k.pf, fun x hx => k.pd x (List.mem_cons_of_mem _ hx), k.pF, k.f0, k.fn, k.dm, k.ex, fun x hx => k.own x (List.mem_cons_of_mem _ hx), (List.nodup_cons.mp k.nd).2⟩
end
/-- the cell at a, and what the cells are with another thing there -/
inductive At : Om → Addr → OC → (OC → Om) → Prop where
  | here {a : Addr} {c : OC} {Ω : Om} : At ((a, c) :: Ω) a c (fun z => (a, z) :: Ω)
  | there {a : Addr} {c : OC} {Ω : Om} {p : Addr × OC} {f : OC → Om} : At Ω a c f → At (p :: Ω) a c (fun z => p :: f z)
theorem At.mem : ∀ {Ω : Om} {a : Addr} {c : OC} {f : OC → Om}, At Ω a c f → (a, c) ∈ Ω
  | _, _, _, _, .here => List.mem_cons_self
  | _, _, _, _, .there h => List.mem_cons_of_mem _ h.mem
theorem At.addrs : ∀ {Ω : Om} {a : Addr} {c : OC} {f : OC → Om}, At Ω a c f → ∀ z, (f z).map (·.1) = Ω.map (·.1)
  | _, _, _, _, .here, _ => rfl
  | _, _, _, _, .there h, z => by rw [List.map_cons, List.map_cons, h.addrs z]
theorem At.mems : ∀ {Ω : Om} {a : Addr} {c : OC} {f : OC → Om}, At Ω a c f → ∀ z x, x ∈ f z → x = (a, z) ∨ x ∈ Ω
  | _, _, _, _, .here, z, x, h => by
    rcases List.mem_cons.mp h with h | h
    · exact Or.inl h
    · exact Or.inr (List.mem_cons_of_mem _ h)
  | _, _, _, _, .there t, z, x, h => by
    rcases List.mem_cons.mp h with h | h
    · exact Or.inr (h ▸ List.mem_cons_self)
    · rcases t.mems z x h with q | q
      · exact Or.inl q
      · exact Or.inr (List.mem_cons_of_mem _ q)
theorem At.after : ∀ {Ω : Om} {a : Addr} {c : OC} {f : OC → Om}, At Ω a c f → ∀ z, At (f z) a z f
  | _, _, _, _, .here, z => .here
  | _, _, _, _, .there h, z => .there (h.after z)
section
variable {E : En} {P F H : Hp} {Ω : Om}
theorem nd_inj {α β : Type} {f : α → β} : ∀ {l : List α} {x y : α}, (l.map f).Nodup → x ∈ l → y ∈ l → f x = f y → x = y
  | [], _, _, _, h, _, _ => by cases h
  | z :: l, x, y, nd, hx, hy, e => by
    rw [List.map_cons] at nd
    obtain ⟨n1, n2⟩ := List.nodup_cons.mp nd
    rcases List.mem_cons.mp hx with h1 | h1
    · rcases List.mem_cons.mp hy with h2 | h2
      · rw [h1, h2]
      · rw [h1] at e
        exact absurd (by rw [e]; exact List.mem_map_of_mem h2) n1
    · rcases List.mem_cons.mp hy with h2 | h2
      · rw [h2] at e
        exact absurd (by rw [← e]; exact List.mem_map_of_mem h1) n1
      · exact nd_inj n2 h1 h2 e
theorem Ok.at_ (h : Ok E P F H Ω) {a : Addr} {c : OC} {f : OC → Om} (t : At Ω a c f) : F a = none ∧ ∃ o, H a = some o ∧ RpO E.K F o c := h.own _ t.mem
theorem Ok.lst (h : Ok E P F H Ω) {a : Addr} {xs : List PyData} {f : OC → Om} (t : At Ω a (.lst xs) f) : ∃ vs, H a = some (.lst vs) ∧ DqAll E.K F vs xs := by
  obtain ⟨_, o, h1, h2⟩ := h.at_ t
  cases o <;> first | exact ⟨_, h1, h2⟩ | exact (show False from h2).elim
theorem Ok.lx (h : Ok E P F H Ω) {a : Addr} {xs : List SV} {f : OC → Om} (t : At Ω a (.lx xs) f) : ∃ vs, H a = some (.lst vs) ∧ Paired (Rp E.K F) vs xs := by
  obtain ⟨_, o, h1, h2⟩ := h.at_ t
  cases o <;> first | exact ⟨_, h1, h2⟩ | exact (show False from h2).elim
theorem Ok.dk (h : Ok E P F H Ω) {a : Addr} {xs : List (Key × SV)} {f : OC → Om} (t : At Ω a (.dk xs) f) : ∃ vs, H a = some (.dK vs) ∧ Paired (fun p q => p.1 = q.1 ∧ Rp E.K F p.2 q.2) vs xs := by
  obtain ⟨_, o, h1, h2⟩ := h.at_ t
  cases o <;> first | exact ⟨_, h1, h2⟩ | exact (show False from h2).elim
/-- the cell at a is changed -/
theorem Ok.put (h : Ok E P F H Ω) {a : Addr} {c z : OC} {f : OC → Om} {o : HO} (t : At Ω a c f) (r : RpO E.K F o z) : Ok E P F (upd H a o) (f z) := by
  obtain ⟨nF, o0, h0, _⟩ := h.at_ t
  have nP : P a = none := h.pd _ t.mem
  refine ⟨h.p0, fun b u q => by rw [upd_ne (ne_of_none q nP)]; exact h.pf b u q, fun x hx => ?_, h.pF, h.f0, h.fn, fun b q => ?_, fun b u q => ?_, fun x hx => ?_, by rw [t.addrs z]; exact h.nd⟩
  · rcases t.mems z x hx with q | q
    · rw [q]; exact nP
    · exact h.pd x q
  · by_cases hb : b = a
    · rw [hb, upd_same] at q; cases q
    · rw [upd_ne hb] at q; exact h.dm b q
  · rw [upd_ne (ne_of_none q nF)]; exact h.ex b u q
  · by_cases hb : x.1 = a
    · have e : x = (a, z) := nd_inj (f := (·.1)) (l := f z) (by rw [t.addrs z]; exact h.nd) hx (t.after z).mem hb
      rw [e]
      exact ⟨nF, o, upd_same, r⟩
    · rcases t.mems z x hx with q | q
      · rw [q] at hb; exact absurd rfl hb
      · obtain ⟨h1, u, h2, h3⟩ := h.own x q
        exact ⟨h1, u, by rw [upd_ne hb]; exact h2, h3⟩
/-- a cell is frozen -/
theorem Ok.frz (h : Ok E P F H Ω) {Ω' : Om} {a : Addr} {c : OC} {o : HO} (ha : H a = some o) (n0 : E.H0 a = none) (nF : F a = none) (nP : P a = none) (hm : ∀ x ∈ Ω', x ∈ Ω ∧ x.1 ≠ a) (nd : (Ω'.map (·.1)).Nodup) : Ok E P (upd F a o) H Ω' ∧ Same F (upd F a o) := by
  have sF : Same F (upd F a o) := fun b u q => by rw [upd_ne (ne_of_none q nF)]; exact q
  refine ⟨⟨h.p0, h.pf, fun x hx => h.pd x (hm x hx).1, fun b q => by rw [upd_ne (fun z => q (by rw [z]; exact nP))]; exact h.pF b q, h.f0.trans sF, fun b q z => ?_, h.dm, fun b u q => ?_, fun x hx => ?_, nd⟩, sF⟩
  · by_cases hb : b = a
    · rw [hb]; exact n0
    · rw [upd_ne hb] at q; exact h.fn b q z
  · by_cases hb : b = a
    · rw [hb] at q ⊢; rw [upd_same] at q; rw [ha]; exact q
    · rw [upd_ne hb] at q; exact h.ex b u q
  · obtain ⟨q, ne⟩ := hm x hx
    obtain ⟨h1, u, h2, h3⟩ := h.own x q
    exact ⟨by rw [upd_ne ne]; exact h1, u, h2, h3.same sF⟩
/-- a callee's state, and back -/
theorem Ok.enter (h : Ok E P F H Ω) : Ok ⟨⟨F, H, P⟩, E.K⟩ P F H Ω := ⟨Same.refl P, h.pf, h.pd, h.pF, Same.refl F, fun a q z => absurd z q, fun a q => q, h.ex, h.own, h.nd⟩
theorem Ok.leave {P' F' H' : Hp} {Ω' : Om} (h : Ok E P F H Ω) (k : Ok ⟨⟨F, H, P⟩, E.K⟩ P' F' H' Ω') : Ok E P F' H' Ω' := by
  refine ⟨h.p0, fun b u q => k.pf b u (k.p0 b u q), fun x hx => k.p0.free (k.pd x hx), fun a q => k.pF a (fun z => q (k.p0.free z)), h.f0.trans k.f0, fun a q z => ?_, fun a q => h.dm a (k.dm a q), k.ex, k.own, k.nd⟩
  by_cases e : F a = none
  · exact h.dm a (k.fn a q e)
  · exact h.fn a e z
/-- one more thing that is left alone -/
theorem Ok.guard (h : Ok E P F H Ω) {p : Addr} {o : HO} (e : H p = none) : Ok E (upd P p o) F (upd H p o) Ω := by
  have nP := h.pf.free e
  have k := h.newX (o := o) e
  refine ⟨h.p0.trans fun b u q => by rw [upd_ne (ne_of_none q nP)]; exact q, fun b u q => ?_, fun x hx => ?_, fun a q => ?_, k.f0, k.fn, k.dm, k.ex, k.own, k.nd⟩
  · by_cases hb : b = p
    · rw [hb] at q ⊢; rw [upd_same] at q ⊢; exact q
    · rw [upd_ne hb] at q ⊢; exact h.pf b u q
  · obtain ⟨_, u, h2, _⟩ := h.own x hx
    rw [upd_ne (ne_of_none h2 e)]
    exact h.pd x hx
  · by_cases ha : a = p
    · rw [ha]; exact h.free e
    · rw [upd_ne ha] at q; exact h.pF a q
/-- the guarded thing is changed by its owner -/
theorem Ok.poke {p : Addr} {o o' : HO} (h : Ok E (upd P p o) F H Ω) (n0 : E.P0 p = none) (nF : F p = none) (np : P p = none) : Ok E (upd P p o') F (upd H p o') Ω := by
  have hp : H p = some o := h.pf p o upd_same
  refine ⟨fun b u q => ?_, fun b u q => ?_, fun x hx => ?_, fun b q => ?_, h.f0, h.fn, fun b q => ?_, fun b u q => ?_, fun x hx => ?_, h.nd⟩
  · have ne : b ≠ p := ne_of_none q n0
    have := h.p0 b u q
    rw [upd_ne ne] at this ⊢
    exact this
  · by_cases hb : b = p
    · rw [hb] at q ⊢; rw [upd_same] at q ⊢; exact q
    · have := h.pf b u (by rw [upd_ne hb] at q ⊢; exact q)
      rw [upd_ne hb]; exact this
  · have := h.pd x hx
    have ne : x.1 ≠ p := fun z => by rw [z, upd_same] at this; cases this
    rw [upd_ne ne] at this ⊢
    exact this
  · by_cases hb : b = p
    · rw [hb]; exact nF
    · exact h.pF b (by rw [upd_ne hb] at q ⊢; exact q)
  · by_cases hb : b = p
    · rw [hb, upd_same] at q; cases q
    · rw [upd_ne hb] at q; exact h.dm b q
  · rw [upd_ne (ne_of_none q nF)]; exact h.ex b u q
  · obtain ⟨h1, u, h2, h3⟩ := h.own x hx
    have := h.pd x hx
    have ne : x.1 ≠ p := fun z => by rw [z, upd_same] at this; cases this
    exact ⟨h1, u, by rw [upd_ne ne]; exact h2, h3⟩
/-- no longer guarded: frozen, a cell, or let go -/
theorem Ok.letP {P' : Hp} (h : Ok E P' F H Ω) (s0 : Same E.P0 P) (s : Same P P') : Ok E P F H Ω := ⟨s0, fun b u q => h.pf b u (s b u q), fun x hx => s.free (h.pd x hx), fun a q => h.pF a (fun z => q (s.free z)), h.f0, h.fn, h.dm, h.ex, h.own, h.nd⟩
/-- what was guarded becomes a cell -/
theorem Ok.adopt {p : Addr} {o : HO} {c : OC} (h : Ok E (upd P p o) F H Ω) (s0 : Same E.P0 P) (np : P p = none) (r : RpO E.K F o c) : Ok E P F H ((p, c) :: Ω) := by
  have sP : Same P (upd P p o) := fun b u q => by rw [upd_ne (ne_of_none q np)]; exact q
  have k := h.letP s0 sP
  have hp : H p = some o := h.pf p o upd_same
  have nF : F p = none := h.pF p (by rw [upd_same]; exact fun z => nomatch z)
  have ne : ∀ x ∈ Ω, x.1 ≠ p := fun x hx z => by
    have := h.pd x hx
    rw [z, upd_same] at this
    cases this
  refine ⟨k.p0, k.pf, fun x hx => ?_, k.pF, k.f0, k.fn, k.dm, k.ex, fun x hx => ?_, ?_⟩
  · rcases List.mem_cons.mp hx with q | q
    · rw [q]; exact np
    · exact k.pd x q
  · rcases List.mem_cons.mp hx with q | q
    · rw [q]; exact ⟨nF, o, hp, r⟩
    · exact k.own x q
  · rw [List.map_cons]
    refine List.nodup_cons.mpr ⟨fun z => ?_, k.nd⟩
    obtain ⟨x, hx, e⟩ := List.mem_map.mp z
    exact ne x hx e
/-- what was guarded becomes data -/
theorem Ok.adoptF {p : Addr} {o : HO} (h : Ok E (upd P p o) F H Ω) (s0 : Same E.P0 P) (np : P p = none) (n0 : E.H0 p = none) : Ok E P (upd F p o) H Ω ∧ Same F (upd F p o) := by
  have sP : Same P (upd P p o) := fun b u q => by rw [upd_ne (ne_of_none q np)]; exact q
  have k := h.letP s0 sP
  have nF : F p = none := h.pF p (by rw [upd_same]; exact fun z => nomatch z)
  refine k.frz (c := .raw o) (h.pf p o upd_same) n0 nF np (fun x hx => ⟨hx, fun z => ?_⟩) k.nd
  have := h.pd x hx
  rw [z, upd_same] at this
  cases this
end
end Z
/-! Z2: calls of defs where no repr is under way (A.guards = some []). -/
namespace Z
open PySem PySem.Spec PyProof.Rows L2
structure FnG (P : Program) (w : World) (K : Frag) (mg : Str → Option Value) (base : Heap) (CX : CXT) (k : Nat) (f : Addr) (fd : FuncData) (ps : List Str) (sp : Sp) : Prop where
  len : ∀ vs H Q E, sp vs H Q E → vs.length = ps.length
  go : ∀ (A : Around) (outer : List Env) (s : Shared) (H : Hp) (args : Args) (us : List Value) (vs : List V) (Q : VK) (E : XK),
    Room k A → A.guards = some [] → Env0 P w K mg base A outer s H → BindsTo s fd args (ps.zip us) → Vals vs us → sp vs H Q E →
    codeAny (model P w) A (.call (.ref f) args) (CR CX outer P w H s Q E) s
section
variable {P : Program} {w : World} {K : Frag} {mg : Str → Option Value} {base : Heap} {CX : CXT} {k : Nat} {f : Addr} {fd : FuncData} {ps : List Str} {sp : Sp}
theorem FnG.up {j : Nat} (F : FnG P w K mg base CX j f fd ps sp) (h : j ≤ k) : FnG P w K mg base CX k f fd ps sp :=
  ⟨F.len, fun A outer s H args us vs Q E hr => F.go A outer s H args us vs Q E (hr.mono h)⟩
/-- a def by its body -/
theorem fnG_of {name qual : Str} {params : Arguments} {body : List Stmt} {scope : Scope} {dV kV doc pm cdv ct oc : Value} {an od : Option Addr} {osl : Array (Option Value)} {N : List Str}
    (lk : K.lookup f = some ⟨oc, od, .func (PySem.W.fnOf name qual params body scope dV kV doc pm an cdv ct), osl⟩) (hcd : PySem.W.codeIn K cdv qual = true) (S : FnScope N ps scope)
    (len : ∀ vs H Q E, sp vs H Q E → vs.length = ps.length)
    (hbody : ∀ (A : Around) (outer : List Env) (s : Shared) (H : Hp) (vs : List V) (Q : VK) (E : XK), A.guards = some [] → Room k (A.deeper (envOfC qual scope s.heap.objs.size f cdv)) → sp vs H Q E →
      ∃ t, PSs (cxOf CX P w K mg base N qual scope f cdv A outer s H E) body t ∧ t { nx := fun _ H' => Q .non H', rt := Q } (start N vs) H) :
    FnG P w K mg base CX (k + 1) f (PySem.W.fnOf name qual params body scope dV kV doc pm an cdv ct) ps sp := by
  refine ⟨len, fun A outer s H args us vs Q E hr hgd e0 hb rv hsp => ?_⟩
  have old := fun b o e => (e0.bs b o e).1
  have KX : K.In s.heap := e0.mod.kin.keeps old
  have lim : s.heap.NoLimit := e0.mod.nolimit.keeps old
  have hkind : ∀ y ∈ ps.zip us, scope.names.lookup y.1 = some .local ∨ (scope.names.lookup y.1 = some .cell ∧ ((cellsFrom (s.heap.objs.size + 1) scope.names []).lookup y.1).isSome = true) := by
    rintro ⟨n, v⟩ hy
    exact (S.par n (List.of_mem_zip hy).1).elim .inl fun q => .inr ⟨q, PySem.W.cellsFrom_some _ _ _ (.inl q)⟩
  refine codeAny_call_function hr.depth (KX _ _ lk) rfl S.co S.gen rfl (PySem.W.codeRec_of KX hcd) (hb _ _ _ _ (wpAny_newFunctionEnv_cells S.kind hkind fun env he s1 x => ?_))
  cases he
  refine ⟨lim.keeps x.toInCall.keep, codeAny_func ?_⟩
  obtain ⟨t, ht, hq⟩ := hbody A outer s H vs Q E hgd (hr.deeper _) hsp
  have I0 := inv_start (CX := CX) (P := P) (w := w) (mg := mg) (E := E) S hr.hd e0 (len _ _ _ _ hsp) rv x
  refine wpAny_mono (ht.run [] s1 (start N vs) H _ I0 hq) (fun fl s' hs => ?_) fun _ _ z => z
  cases fl with
  | ret u => obtain ⟨v, σ', H', J, rv, q⟩ := hs; exact ⟨v, H', J.os, J.bare, J.base, J.hok, rv, q⟩
  | next => obtain ⟨σ', H', J, q⟩ := hs; exact ⟨.non, H', J.os, J.bare, J.base, J.hok, rfl, q⟩
  | brk => obtain ⟨_, _, _, q⟩ := hs; exact q.elim
  | cont => obtain ⟨_, _, _, q⟩ := hs; exact q.elim
end
section
variable {X : Cx} {CX : CXT} {k : Nat} {f : Addr} {fd : FuncData} {ps ks : List Str} {sp : Sp} {E : L2.St → XK} {x : Str} {p pos : Pos} {e : Expr} {es : List Expr} {kws : List Keyword} {t tk : TA}
/-- what a callee raises, at the caller's slots, reaches what this body wants -/
def PassAt (CX : CXT) (X : Cx) (σ : L2.St) (E : XK) : Prop := ∀ (pins : List (Addr × Obj)) (H : Hp) (s : Shared) (e : Value) (s' : Shared), Inv X pins σ H s → CX X.stack H s E e s' → X.xe e s'
theorem passAt0 {σ : L2.St} : PassAt CX0 X σ E0 := fun _ _ _ _ _ _ h => h.elim
theorem runG {pins : List (Addr × Obj)} {σ : L2.St} {H : Hp} {s : Shared} {Q : VK} {args : Args} {us : List Value} {vs : List V} (F : FnG X.prog X.w X.K X.mg X.base CX k f fd ps sp) (hr : Room k X.A) (hgd : X.A.guards = some []) (hx : PassAt CX X σ (E σ))
    (I : Inv X pins σ H s) (hb : us.length = ps.length → BindsTo s fd args (ps.zip us)) (r : Vals vs us) (h : sp vs H Q (E σ)) :
    codeAny (model X.prog X.w) X.A (.call (.ref f) args) (fun r s' => match r with | .ok (.ret u) => EP X pins σ Q u s' | .ok _ => False | .error e => X.xe e s') s := by
  have hl : us.length = ps.length := by rw [← r.length]; exact F.len _ _ _ _ h
  refine codeAny_mono (F.go X.A X.stack s H args us vs Q (E σ) hr hgd I.env0 (hb hl) r h) fun r s' hq => ?_
  match r, hq with
  | .error e, hq => exact hx pins H s e s' I hq
  | .ok (.ret u), hq => exact I.after hq
  | .ok .next, hq => exact hq
  | .ok .brk, hq => exact hq
  | .ok .cont, hq => exact hq
theorem wp_of_code {A : Around} {u : Value} {us : List Value} {kw : List (Str × Value)} {s : Shared} {Q : Value → Shared → Prop} {M : Model} {E' : Value → Shared → Prop}
    (h : codeAny M A (.call u ⟨us, kw⟩) (fun r s' => match r with | .ok (.ret u) => Q u s' | .ok _ => False | .error e => E' e s') s) : wpAny M A (call u us kw) Q E' s := by
  refine wpAny_call (codeAny_mono h fun r s' hq => ?_)
  match r, hq with
  | .error e, hq => exact hq
  | .ok (.ret u), hq => exact hq
  | .ok .next, hq => exact hq.elim
  | .ok .brk, hq => exact hq.elim
  | .ok .cont, hq => exact hq.elim
def tCallG (sp : Sp) (E : L2.St → XK) (t : TA) : TE := fun σ H Q => t σ H fun vs H1 => sp vs H1 Q (E σ)
def tCallGK (sp : Sp) (gV : List V → List V → List V) (E : L2.St → XK) (t tk : TA) : TE := fun σ H Q => t σ H fun vs H1 => tk σ H1 fun zs H2 => sp (gV vs zs) H2 Q (E σ)
/-- f(e, ..) -/
theorem pg_call (F : FnG X.prog X.w X.K X.mg X.base CX k f fd ps sp) (hr : Room k X.A) (hgd : X.A.guards = some []) (hg : Gl X x) (hm : X.mg x = some (.ref f)) (hk : PySem.W.keepIn X.K (.ref f) = true)
    (hb : Binds X.K fd ps []) (hx : ∀ σ, PassAt CX X σ (E σ)) (ha : PA X (e :: es) t) (hdb : (x == ("__debug__" : Str)) = false := by decide)
    (he : starEach (e :: es) X.env = (false, eval e X.env) :: starEach es X.env := by rfl) (hpl : (backTo pos (starEach es X.env)).any (·.1) = false := by rfl) :
    PE X (.Call (.Name x p) (e :: es) [] pos) (tCallG sp E t) := by
  refine ⟨fun pins s σ H Q I h => wpAny_Call_Name_kw (ld_glob I hg hm (PySem.W.callWith_K (h₀ := X.base) I.ok.mod.kin hk
    (thn (ha.run pos pins s σ H _ I h) fun us s1 ⟨vs, H1, I1, r, q⟩ => ⟨I1.kIn, ?_⟩) he hpl) hdb)⟩
  refine wp_of_code (runG F hr hgd (hx σ) I1 (fun hl => ?_) r q)
  have b := hb s1 us I1.kIn (by rw [List.append_nil]; exact hl)
  rw [List.append_nil] at b
  exact b
/-- f() -/
theorem pg_call0 (F : FnG X.prog X.w X.K X.mg X.base CX k f fd ps sp) (hr : Room k X.A) (hgd : X.A.guards = some []) (hg : Gl X x) (hm : X.mg x = some (.ref f)) (hk : PySem.W.keepIn X.K (.ref f) = true)
    (hb : Binds X.K fd ps []) (hx : ∀ σ, PassAt CX X σ (E σ)) (hdb : (x == ("__debug__" : Str)) = false := by decide) : PE X (.Call (.Name x p) [] [] pos) (tCallG sp E tNil) := by
  refine ⟨fun pins s σ H Q I h => wpAny_Call_Name_kw (ld_glob I hg hm (PySem.W.callWith_K0 I.kIn hk ?_) hdb)⟩
  exact wp_of_code (runG (us := []) F hr hgd (hx σ) I (fun hl => hb s [] I.kIn hl) .nil h)
end
end Z
/-! Z3: expressions over data: what is to hold (AE, AT, AA), and that it is enough (JE, JT, JA). -/
namespace Z
open PySem PySem.Spec PyProof.Rows L2
abbrev PhiE := SV → Om → Prop
abbrev AE := Rho → Om → PhiE → Prop
abbrev AT := Rho → Om → (Bool → Om → Prop) → Prop
abbrev AA := Rho → Om → (List SV → Om → Prop) → Prop
abbrev AR := SV → SV → Om → PhiE → Prop
abbrev AC := List SV → Om → PhiE → Prop
abbrev AM := SV → List SV → Om → PhiE → Prop
/-- what is known behind a step -/
abbrev Aft (E : En) (P F : Hp) (Φ : PhiE) (Q : VK) : Prop := ∀ {v : V} {sv : SV} {Ω' : Om} {F' H' : Hp}, Φ sv Ω' → Ok E P F' H' Ω' → Same F F' → Rp E.K F' v sv → Q v H'
structure SnE (E : En) (te : TE) (a : AE) : Prop where
  go : ∀ {ρ : Rho} {Ω : Om} {Φ : PhiE}, a ρ Ω Φ → ∀ {P F H : Hp} {σ : L2.St} {Q : VK}, Ok E P F H Ω → RpE E.K F σ ρ → Aft E P F Φ Q → te σ H Q
structure SnT (E : En) (te : TT) (a : AT) : Prop where
  go : ∀ {ρ : Rho} {Ω : Om} {Φ : Bool → Om → Prop}, a ρ Ω Φ → ∀ {P F H : Hp} {σ : L2.St} {Q : Bool → Hp → Prop}, Ok E P F H Ω → RpE E.K F σ ρ →
  (∀ {b : Bool} {Ω' : Om} {F' H' : Hp}, Φ b Ω' → Ok E P F' H' Ω' → Same F F' → Q b H') → te σ H Q
structure SnA (E : En) (te : TA) (a : AA) : Prop where
  go : ∀ {ρ : Rho} {Ω : Om} {Φ : List SV → Om → Prop}, a ρ Ω Φ → ∀ {P F H : Hp} {σ : L2.St} {Q : List V → Hp → Prop}, Ok E P F H Ω → RpE E.K F σ ρ →
  (∀ {vs : List V} {svs : List SV} {Ω' : Om} {F' H' : Hp}, Φ svs Ω' → Ok E P F' H' Ω' → Same F F' → Paired (Rp E.K F') vs svs → Q vs H') → te σ H Q
structure SnR (E : En) (r : R2) (ar : AR) : Prop where
  go : ∀ {x y : SV} {Ω : Om} {Φ : PhiE}, ar x y Ω Φ → ∀ {P F H : Hp} {vx vy : V} {Q : VK}, Ok E P F H Ω → Rp E.K F vx x → Rp E.K F vy y → Aft E P F Φ Q → r vx vy H Q
structure SnU (E : En) (r : V → Hp → VK → Prop) (ar : SV → Om → PhiE → Prop) : Prop where
  go : ∀ {x : SV} {Ω : Om} {Φ : PhiE}, ar x Ω Φ → ∀ {P F H : Hp} {vx : V} {Q : VK}, Ok E P F H Ω → Rp E.K F vx x → Aft E P F Φ Q → r vx H Q
structure SnC (E : En) (r : List V → Hp → VK → Prop) (ac : AC) : Prop where
  go : ∀ {xs : List SV} {Ω : Om} {Φ : PhiE}, ac xs Ω Φ → ∀ {P F H : Hp} {vs : List V} {Q : VK}, Ok E P F H Ω → Paired (Rp E.K F) vs xs → Aft E P F Φ Q → r vs H Q
structure SnM (E : En) (r : V → List V → Hp → VK → Prop) (am : AM) : Prop where
  go : ∀ {x : SV} {xs : List SV} {Ω : Om} {Φ : PhiE}, am x xs Ω Φ → ∀ {P F H : Hp} {v : V} {vs : List V} {Q : VK}, Ok E P F H Ω → Rp E.K F v x → Paired (Rp E.K F) vs xs → Aft E P F Φ Q → r v vs H Q
abbrev enX (X : Cx) (G : Gn) : En := ⟨G, X.K⟩
def JE (X : Cx) (G : Gn) (e : Expr) (a : AE) : Prop := ∃ te, PE X e te ∧ SnE (enX X G) te a
def JT (X : Cx) (G : Gn) (e : Expr) (a : AT) : Prop := ∃ te, PT X e te ∧ SnT (enX X G) te a
def JW (X : Cx) (G : Gn) (e : Expr) (a : AT) : Prop := ∃ te, PW X e te ∧ SnT (enX X G) te a
def JA (X : Cx) (G : Gn) (es : List Expr) (a : AA) : Prop := ∃ te, PA X es te ∧ SnA (enX X G) te a
def JK (X : Cx) (G : Gn) (es : List Keyword) (a : AA) : Prop := ∃ te, PK X es te ∧ SnA (enX X G) te a
def JOp (X : Cx) (G : Gn) (f : Value → Value → Sem Value) (ar : AR) : Prop := ∃ r, OpR X f r ∧ SnR (enX X G) r ar
def JUn (X : Cx) (G : Gn) (f : Value → Sem Value) (ar : SV → Om → PhiE → Prop) : Prop := ∃ r, UnR X f r ∧ SnU (enX X G) r ar
def JIx (X : Cx) (G : Gn) (ar : AR) : Prop := ∃ r, IxR X r ∧ SnR (enX X G) r ar
def JC (X : Cx) (G : Gn) (f : Value) (ac : AC) : Prop := ∃ r, CallR X f r ∧ SnC (enX X G) r ac
def JM (X : Cx) (G : Gn) (id : String) (am : AM) : Prop := ∃ r, MtR X id r ∧ SnM (enX X G) r am
/-! ### modes of new lists: data at once, or a cell of the def's own -/
abbrev Mode := Option (Addr → Prop)
def dataOf : List SV → Option (List PyData)
  | [] => some []
  | .d x :: r => match dataOf r with | some ds => some (x :: ds) | none => none
  | _ :: _ => none
def mkL (xs : List SV) : OC := match dataOf xs with | some ds => .lst ds | none => .lx xs
def newL (m : Mode) (ds : List PyData) (Ω : Om) (Φ : PhiE) : Prop := match m with
  | none => Φ (.d (.list ds)) Ω
  | some Fr => ∀ a, Fr a → Φ (.r (.ref a)) ((a, .lst ds) :: Ω)
def newX (m : Mode) (xs : List SV) (Ω : Om) (Φ : PhiE) : Prop := match m with
  | none => match dataOf xs with | some ds => Φ (.d (.list ds)) Ω | none => False
  | some Fr => ∀ a, Fr a → Φ (.r (.ref a)) ((a, mkL xs) :: Ω)
theorem dataOf_ok {K : Frag} {F : Hp} : ∀ {xs : List SV} {ds : List PyData} {vs : List V}, dataOf xs = some ds → Paired (Rp K F) vs xs → DqAll K F vs ds
  | [], ds, vs, h, r => by
    cases h
    cases r
    exact .nil
  | .d x :: xs, ds, vs, h, r => by
    cases r with
    | cons r1 r2 =>
      unfold dataOf at h
      cases e : dataOf xs with
      | none => rw [e] at h; cases h
      | some ds' =>
        rw [e] at h
        cases h
        exact .cons r1 (dataOf_ok e r2)
  | .l x :: xs, ds, vs, h, r => by cases h
  | .r x :: xs, ds, vs, h, r => by cases h
theorem mkL_ok {K : Frag} {F : Hp} {xs : List SV} {vs : List V} (r : Paired (Rp K F) vs xs) : RpO K F (.lst vs) (mkL xs) := by
  unfold mkL
  split
  · rename_i ds e; exact dataOf_ok e r
  · exact r
/-- the mode fits the entry -/
def MOk (E : En) (m : Mode) : Prop := ∀ Fr, m = some Fr → ∀ a, E.H0 a = none → Fr a
theorem mok0 {E : En} : MOk E none := fun _ h => by cases h
theorem mok1 {E : En} : MOk E (some fun a => E.H0 a = none) := fun _ h a e => by cases h; exact e
section
variable {E : En} {P F H : Hp} {Ω : Om} {Φ : PhiE} {Q : VK} {m : Mode}
theorem newL_ok (hm : MOk E m) (o : Ok E P F H Ω) {ds : List PyData} {vs : List V} (r : DqAll E.K F vs ds) (h : newL m ds Ω Φ) (k : Aft E P F Φ Q) {p : Addr} (hp : H p = none) : Q (.ref p) (upd H p (.lst vs)) := by
  cases m with
  | none =>
    obtain ⟨o1, s1⟩ := o.newF (o := .lst vs) hp
    exact k h o1 s1 (Dq.lst upd_same (dqa_same s1 _ _ r))
  | some Fr => exact k (h p (hm _ rfl p (o.dm p hp))) (o.newO hp (c := .lst ds) r) (Same.refl F) rfl
theorem newX_ok (hm : MOk E m) (o : Ok E P F H Ω) {xs : List SV} {vs : List V} (r : Paired (Rp E.K F) vs xs) (h : newX m xs Ω Φ) (k : Aft E P F Φ Q) {p : Addr} (hp : H p = none) : Q (.ref p) (upd H p (.lst vs)) := by
  cases m with
  | none =>
    have h' : (match dataOf xs with | some ds => Φ (.d (.list ds)) Ω | none => False) := h
    split at h'
    · rename_i ds e
      obtain ⟨o1, s1⟩ := o.newF (o := .lst vs) hp
      exact k h' o1 s1 (Dq.lst upd_same (dqa_same s1 _ _ (dataOf_ok e r)))
    · exact h'.elim
  | some Fr => exact k (h p (hm _ rfl p (o.dm p hp))) (o.newO hp (mkL_ok r)) (Same.refl F) rfl
end
/-! ### what is read as a list of data -/
def rdL (x : SV) (Ω : Om) (k : List PyData → Prop) : Prop := match x with
  | .d (.list ds) => k ds
  | .r (.ref a) => ∃ ds f, At Ω a (.lst ds) f ∧ k ds
  | _ => False
def rdS (x : SV) (Ω : Om) (k : List PyData → Prop) : Prop := match x with
  | .d (.list ds) => k ds
  | .d (.tuple ds) => k ds
  | .l ds => k ds
  | .r (.ref a) => ∃ ds f, At Ω a (.lst ds) f ∧ k ds
  | _ => False
def rdD (x : SV) (Ω : Om) (k : PyData → Prop) : Prop := match x with
  | .d d => k d
  | .l ds => k (.list ds)
  | .r (.ref a) => ∃ ds f, At Ω a (.lst ds) f ∧ k (.list ds)
  | _ => False
section
variable {E : En} {P F H : Hp} {Ω : Om} {x : SV} {v : V}
theorem rdL_ok {k : List PyData → Prop} (h : rdL x Ω k) (o : Ok E P F H Ω) (r : Rp E.K F v x) : ∃ a vs ds, v = .ref a ∧ H a = some (.lst vs) ∧ DqAll E.K F vs ds ∧ k ds := by
  unfold rdL at h
  split at h
  · obtain ⟨a, xs, e, hF, ha⟩ := dql r
    exact ⟨a, xs, _, e, o.ex _ _ hF, ha, h⟩
  · obtain ⟨ds, f, t, hk⟩ := h
    obtain ⟨vs, h1, h2⟩ := o.lst t
    exact ⟨_, vs, ds, r, h1, h2, hk⟩
  · exact h.elim
theorem rdS_ok {k : List PyData → Prop} (h : rdS x Ω k) (o : Ok E P F H Ω) (r : Rp E.K F v x) : ∃ a vs ds, v = .ref a ∧ (SqL E.K H a vs ∨ SqT E.K H a vs) ∧ DqAll E.K F vs ds ∧ k ds := by
  unfold rdS at h
  split at h
  · obtain ⟨a, xs, e, hF, ha⟩ := dql r
    exact ⟨a, xs, _, e, Or.inl (SqL.of (o.ex _ _ hF)), ha, h⟩
  · obtain ⟨a, xs, e, hF, ha⟩ := dqt r
    exact ⟨a, xs, _, e, Or.inr (sqt_same o.ex hF), ha, h⟩
  · obtain ⟨a, xs, e, hF, ha⟩ := r
    exact ⟨a, xs, _, e, Or.inl (o.ex.seq hF), ha, h⟩
  · obtain ⟨ds, f, t, hk⟩ := h
    obtain ⟨vs, h1, h2⟩ := o.lst t
    exact ⟨_, vs, ds, r, Or.inl (SqL.of h1), h2, hk⟩
  · exact h.elim
theorem rdD_ok2 {k : PyData → Prop} (h : rdD x Ω k) (o : Ok E P F H Ω) (r : Rp E.K F v x) : ∃ d, (d.hasDict = false → Dp E.K H v d) ∧ (hasList d = false → Dq E.K H v d) ∧ k d := by
  unfold rdD at h
  split at h
  · exact ⟨_, Dq.dp _ _ (dq_same o.ex _ _ r), fun _ => dq_same o.ex _ _ r, h⟩
  · obtain ⟨a, xs, rfl, hF, ha⟩ := r
    exact ⟨_, fun n => Dp.lst (o.ex.seq hF) (DqAll.dp _ _ (dqa_same o.ex _ _ ha) (by rw [PyData.hasDict] at n; exact n)), fun n => by simp [hasList] at n, h⟩
  · obtain ⟨ds, f, t, hk⟩ := h
    obtain ⟨vs, h1, h2⟩ := o.lst t
    cases r
    exact ⟨_, fun n => Dp.lst (SqL.of h1) (DqAll.dp _ _ (dqa_same o.ex _ _ h2) (by rw [PyData.hasDict] at n; exact n)), fun n => by simp [hasList] at n, hk⟩
  · exact h.elim
theorem noDict_of_shaped {d : PyData} (h : SeqAt.shaped d = true) : d.hasDict = false := PyData.hasDict_of_canLay d (SeqAt.canLay_of_shaped h)
end
/-! ### names, constants -/
section
variable {X : Cx} {G : Gn} {e a b : Expr} {aa ab : AE} {at_ bt : AT} {ta : AA} {pos : Pos} {m : Mode}
def aVar (i : Nat) : AE := fun ρ Ω Φ => match ρ[i]? with
  | some (some x) => Φ x Ω
  | _ => False
theorem je_var {i : Nat} (h : PE X e (tVar i)) : JE X G e (aVar i) := by
  refine ⟨_, h, ⟨fun {ρ Ω Φ} h {P F H σ Q} o r k => ?_⟩⟩
  unfold aVar at h
  split at h
  · rename_i x ex
    obtain ⟨v, h1, h2⟩ := rpe_get r ex
    exact ⟨v, h1, k h o (Same.refl F) h2⟩
  · exact h.elim
def aC (x : SV) : AE := fun _ Ω Φ => Φ x Ω
theorem je_c {v : V} {x : SV} (h : PE X e (tC v)) (hx : ∀ F, Rp X.K F v x) : JE X G e (aC x) := ⟨_, h, ⟨fun {ρ Ω Φ} h {P F H σ Q} o r k => k h o (Same.refl F) (hx F)⟩⟩
theorem je_int {i : Int} {j pos} : JE X G (.Constant (.int i) j pos) (aC (.d (.int i))) := je_c pe_int fun _ => .int i
theorem je_bl {c : Bool} {j pos} : JE X G (.Constant (.bool c) j pos) (aC (.d (.bool c))) := je_c pe_bl fun _ => .bl c
theorem je_non {j pos} : JE X G (.Constant .none j pos) (aC (.d .none)) := je_c pe_non fun _ => .non
theorem je_str {x j pos} : JE X G (.Constant (.str x) j pos) (aC (.d (.str x))) := je_c pe_str fun _ => .str x
/-- a built-in's name, a def, a class: as it is -/
theorem je_raw {v : V} (h : PE X e (tC v)) : JE X G e (aC (.r v)) := je_c h fun _ => rfl
/-! ### operators -/
def aBin (ar : AR) (a b : AE) : AE := fun ρ Ω Φ => a ρ Ω fun x Ω1 => b ρ Ω1 fun y Ω2 => ar x y Ω2 Φ
theorem bin_ok {E : En} {ta tb : TE} {r : R2} {ar : AR} (h1 : SnE E ta aa) (h2 : SnE E tb ab) (h3 : SnR E r ar) : SnE E (tOp r ta tb) (aBin ar aa ab) := ⟨fun {ρ Ω Φ} h {P F H σ Q} o rp k =>
  h1.go h o rp fun {v sv Ω1 F1 H1} q o1 s1 r1 => h2.go q o1 (rpe_same s1 rp) fun {u su Ω2 F2 H2} q2 o2 s2 r2 => h3.go q2 o2 (r1.same s2) r2 fun q3 o3 s3 r3 => k q3 o3 ((s1.trans s2).trans s3) r3⟩
theorem je_bin {op : Operator} {ar : AR} (ho : JOp X G (binaryOp op) ar) (ha : JE X G a aa) (hb : JE X G b ab) : JE X G (.BinOp a op b pos) (aBin ar aa ab) := by
  obtain ⟨r, h1, h2⟩ := ho
  obtain ⟨t, h3, h4⟩ := ha
  obtain ⟨u, h5, h6⟩ := hb
  exact ⟨_, pe_op h1 h3 h5, bin_ok h4 h6 h2⟩
theorem je_cmp {op : CmpOp} {ar : AR} (ho : JOp X G (compareOp op) ar) (ha : JE X G a aa) (hb : JE X G b ab) (hm : behindInMarks op b = false) : JE X G (.Compare a [op] [b] pos) (aBin ar aa ab) := by
  obtain ⟨r, h1, h2⟩ := ho
  obtain ⟨t, h3, h4⟩ := ha
  obtain ⟨u, h5, h6⟩ := hb
  exact ⟨_, pe_cmpR h1 h3 h5 hm, bin_ok h4 h6 h2⟩
def aUn (ar : SV → Om → PhiE → Prop) (a : AE) : AE := fun ρ Ω Φ => a ρ Ω fun x Ω1 => ar x Ω1 Φ
theorem je_un {op : UnaryOp} {ar : SV → Om → PhiE → Prop} (ho : JUn X G (unaryOp op) ar) (ha : JE X G a aa) : JE X G (.UnaryOp op a pos) (aUn ar aa) := by
  obtain ⟨r, h1, h2⟩ := ho
  obtain ⟨t, h3, h4⟩ := ha
  exact ⟨_, pe_un h1 h3, ⟨fun {ρ Ω Φ} h {P F H σ Q} o rp k => h4.go h o rp fun q o1 s1 r1 => h2.go q o1 r1 fun q3 o3 s3 r3 => k q3 o3 (s1.trans s3) r3⟩⟩
def arI (C : Int → Int → Prop) (g : Int → Int → PyData) : AR := fun x y Ω Φ => match x, y with
  | .d (.int i), .d (.int j) => C i j ∧ Φ (.d (g i j)) Ω
  | _, _ => False
def arI0 (g : Int → Int → PyData) : AR := fun x y Ω Φ => match x, y with
  | .d (.int i), .d (.int j) => Φ (.d (g i j)) Ω
  | _, _ => False
theorem arI_ok {E : En} {C : Int → Int → Prop} {g : Int → Int → PyData} {g' : Int → Int → V} (hg : ∀ i j F, Dq E.K F (g' i j) (g i j)) : SnR E (rI C g') (arI C g) := by
  refine ⟨fun {x y Ω Φ} h {P F H vx vy Q} o r1 r2 k => ?_⟩
  unfold arI at h
  split at h
  · exact ⟨_, _, dqi r1, dqi r2, h.1, k h.2 o (Same.refl F) (hg _ _ F)⟩
  · exact h.elim
theorem arI0_ok {E : En} {g : Int → Int → PyData} {g' : Int → Int → V} (hg : ∀ i j F, Dq E.K F (g' i j) (g i j)) : SnR E (rI0 g') (arI0 g) := by
  refine ⟨fun {x y Ω Φ} h {P F H vx vy Q} o r1 r2 k => ?_⟩
  unfold arI0 at h
  split at h
  · exact ⟨_, _, dqi r1, dqi r2, k h o (Same.refl F) (hg _ _ F)⟩
  · exact h.elim
abbrev arSub : AR := arI0 fun i j => .int (i - j)
abbrev arMul : AR := arI CMulX fun i j => .int (i * j)
abbrev arDiv : AR := arI CDivW fun i j => .int (i / j)
abbrev arMod : AR := arI (fun _ j => 0 < j) fun i j => .int (i % j)
abbrev arPow : AR := arI CPow fun i j => .int (i ^ j.toNat)
abbrev arLt : AR := arI0 fun i j => .bool (decide (i < j))
abbrev arLe : AR := arI0 fun i j => .bool (decide (i ≤ j))
abbrev arGt : AR := arI0 fun i j => .bool (decide (j < i))
abbrev arGe : AR := arI0 fun i j => .bool (decide (j ≤ i))
theorem jo_sub : JOp X G (binaryOp .Sub) arSub := ⟨_, op_sub, arI0_ok fun _ _ _ => .int _⟩
theorem jo_mulI : JOp X G (binaryOp .Mult) arMul := ⟨_, op_mulX, arI_ok fun _ _ _ => .int _⟩
theorem jo_div : JOp X G (binaryOp .FloorDiv) arDiv := ⟨_, op_fdivW, arI_ok fun _ _ _ => .int _⟩
theorem jo_mod : JOp X G (binaryOp .Mod) arMod := ⟨_, op_mod, arI_ok fun _ _ _ => .int _⟩
theorem jo_pow : JOp X G (binaryOp .Pow) arPow := ⟨_, op_pow, arI_ok fun _ _ _ => .int _⟩
theorem jo_lt : JOp X G (compareOp .Lt) arLt := ⟨_, op_lt, arI0_ok fun _ _ _ => .bl _⟩
theorem jo_le : JOp X G (compareOp .LtE) arLe := ⟨_, op_le, arI0_ok fun _ _ _ => .bl _⟩
theorem jo_gt : JOp X G (compareOp .Gt) arGt := ⟨_, op_gt, arI0_ok fun _ _ _ => .bl _⟩
theorem jo_ge : JOp X G (compareOp .GtE) arGe := ⟨_, op_ge, arI0_ok fun _ _ _ => .bl _⟩
def arNeg (x : SV) (Ω : Om) (Φ : PhiE) : Prop := match x with
  | .d (.int i) => Φ (.d (.int (-i))) Ω
  | _ => False
theorem ju_neg : JUn X G (unaryOp .USub) arNeg := by
  refine ⟨_, un_neg, ⟨fun {x Ω Φ} h {P F H vx Q} o r k => ?_⟩⟩
  unfold arNeg at h
  split at h
  · exact ⟨_, dqi r, k h o (Same.refl F) (.int _)⟩
  · exact h.elim
/-- a + b: ints, tuples, texts, lists -/
def arAdd (m : Mode) : AR := fun x y Ω Φ => match x, y with
  | .d (.int i), .d (.int j) => Φ (.d (.int (i + j))) Ω
  | .d (.tuple xs), .d (.tuple ys) => xs.length + ys.length ≤ sizeLine ∧ Φ (.d (.tuple (xs ++ ys))) Ω
  | .d (.str s), .d (.str t) => s.length + t.length ≤ sizeLine ∧ Φ (.d (.str (s ++ t))) Ω
  | x, y => rdL x Ω fun xs => rdL y Ω fun ys => xs.length + ys.length ≤ sizeLine ∧ newL m (xs ++ ys) Ω Φ
theorem dqa_app {K : Frag} {F : Hp} : ∀ {vs ws : List V} {ds es : List PyData}, DqAll K F vs ds → DqAll K F ws es → DqAll K F (vs ++ ws) (ds ++ es)
  | _, _, _, _, .nil, h => h
  | _, _, _, _, .cons r t, h => .cons r (dqa_app t h)
theorem dqa_nil {K : Frag} {F : Hp} {vs : List V} (h : DqAll K F vs []) : vs = [] := by cases h; rfl
theorem jo_add (hm : MOk (enX X G) m) : JOp X G (binaryOp .Add) (arAdd m) := by
  refine ⟨_, OpR.or op_add (OpR.or op_catA (OpR.or op_add_str op_cat)), ⟨fun {x y Ω Φ} h {P F H vx vy Q} o r1 r2 k => ?_⟩⟩
  unfold arAdd at h
  split at h
  · exact Or.inl ⟨_, _, dqi r1, dqi r2, k h o (Same.refl F) (.int _)⟩
  · rename_i xs ys
    obtain ⟨a, vs, rfl, ha, da⟩ := dqt r1
    obtain ⟨b, ws, rfl, hb, db⟩ := dqt r2
    have e1 := dqa_len da
    have e2 := dqa_len db
    refine Or.inr (Or.inl ⟨a, b, vs, ws, rfl, rfl, sqt_same o.ex ha, sqt_same o.ex hb, by rw [e1, e2]; exact h.1, fun z => ?_, fun z1 z2 => ?_, fun z1 z2 p hp => ?_⟩)
    · subst z
      cases da
      exact k h.2 o (Same.refl F) r2
    · subst z2
      cases db
      have h2 := h.2
      rw [List.append_nil] at h2
      exact k h2 o (Same.refl F) r1
    · obtain ⟨o1, s1⟩ := o.newF (o := .tup (vs ++ ws)) hp
      exact k h.2 o1 s1 (Dq.tup (SqT.of upd_same) (dqa_same s1 _ _ (dqa_app da db)))
  · exact Or.inr (Or.inr (Or.inl ⟨_, _, dqs r1, dqs r2, h.1, k h.2 o (Same.refl F) (.str _)⟩))
  · obtain ⟨a, vs, ds, rfl, ha, da, h⟩ := rdL_ok h o r1
    obtain ⟨b, ws, es, rfl, hb, db, h1, h2⟩ := rdL_ok h o r2
    exact Or.inr (Or.inr (Or.inr ⟨a, b, vs, ws, rfl, rfl, ha, hb, by rw [dqa_len da, dqa_len db]; exact h1, fun p hp => newL_ok hm o (dqa_app da db) h2 k hp⟩))
/-- a == b -/
def arEq : AR := fun x y Ω Φ => match x, y with
  | .d (.int i), .d (.int j) => Φ (.d (.bool (decide (i = j)))) Ω
  | .d (.bool i), .d (.bool j) => Φ (.d (.bool (decide (i = j)))) Ω
  | .d (.str i), .d (.str j) => Φ (.d (.bool (decide (i = j)))) Ω
  | x, y => rdD x Ω fun d => rdD y Ω fun e => SeqAt.shaped d = true ∧ SeqAt.shaped e = true ∧ Φ (.d (.bool (PyData.eqv d e))) Ω
def arNe : AR := fun x y Ω Φ => match x, y with
  | .d (.int i), .d (.int j) => Φ (.d (.bool (!decide (i = j)))) Ω
  | .d (.bool i), .d (.bool j) => Φ (.d (.bool (!decide (i = j)))) Ω
  | .d (.str i), .d (.str j) => Φ (.d (.bool (!decide (i = j)))) Ω
  | x, y => rdD x Ω fun d => rdD y Ω fun e => SeqAt.shaped d = true ∧ SeqAt.shaped e = true ∧ Φ (.d (.bool (!PyData.eqv d e))) Ω
theorem jo_eq (hu : X.A.units + 64 < cLine) : JOp X G (compareOp .Eq) arEq := by
  refine ⟨_, OpR.or op_eq (op_eqD hu), ⟨fun {x y Ω Φ} h {P F H vx vy Q} o r1 r2 k => ?_⟩⟩
  unfold arEq at h
  split at h
  · cases dqi r1; cases dqi r2
    refine Or.inl ⟨rfl, k h o (Same.refl F) ?_⟩
    simp only [V.int.injEq]; exact .bl _
  · cases dqb r1; cases dqb r2
    refine Or.inl ⟨rfl, k h o (Same.refl F) ?_⟩
    simp only [V.bl.injEq]; exact .bl _
  · cases dqs r1; cases dqs r2
    refine Or.inl ⟨rfl, k h o (Same.refl F) ?_⟩
    simp only [V.str.injEq]; exact .bl _
  · obtain ⟨d, hd, -, h⟩ := rdD_ok2 h o r1
    obtain ⟨e, he, -, h1, h2, h3⟩ := rdD_ok2 h o r2
    exact Or.inr ⟨d, e, hd (noDict_of_shaped h1), he (noDict_of_shaped h2), h1, h2, k h3 o (Same.refl F) (.bl _)⟩
theorem jo_ne (hu : X.A.units + 64 < cLine) : JOp X G (compareOp .NotEq) arNe := by
  refine ⟨_, OpR.or op_ne (op_neD hu), ⟨fun {x y Ω Φ} h {P F H vx vy Q} o r1 r2 k => ?_⟩⟩
  unfold arNe at h
  split at h
  · cases dqi r1; cases dqi r2
    refine Or.inl ⟨rfl, k h o (Same.refl F) ?_⟩
    simp only [V.int.injEq]; exact .bl _
  · cases dqb r1; cases dqb r2
    refine Or.inl ⟨rfl, k h o (Same.refl F) ?_⟩
    simp only [V.bl.injEq]; exact .bl _
  · cases dqs r1; cases dqs r2
    refine Or.inl ⟨rfl, k h o (Same.refl F) ?_⟩
    simp only [V.str.injEq]; exact .bl _
  · obtain ⟨d, hd, -, h⟩ := rdD_ok2 h o r1
    obtain ⟨e, he, -, h1, h2, h3⟩ := rdD_ok2 h o r2
    exact Or.inr ⟨d, e, hd (noDict_of_shaped h1), he (noDict_of_shaped h2), h1, h2, k h3 o (Same.refl F) (.bl _)⟩
/-- a is None, a is not None -/
def isNon : SV → Bool
  | .d .none => true
  | .r v => decide (v = .non)
  | _ => false
theorem isNon_ok {K : Frag} {F : Hp} {v : V} : ∀ {x : SV}, Rp K F v x → decide (v = .non) = isNon x
  | .d .none, h => by cases dqn h; rfl
  | .d (.int i), h => by cases dqi h; rfl
  | .d (.bool b), h => by cases dqb h; rfl
  | .d (.str b), h => by cases dqs h; rfl
  | .d (.list b), h => by obtain ⟨a, _, rfl, _⟩ := dql h; rfl
  | .d (.tuple b), h => by obtain ⟨a, _, rfl, _⟩ := dqt h; rfl
  | .d (.dict b), h => by cases h; rfl
  | .l ds, h => by obtain ⟨a, _, rfl, _⟩ := h; rfl
  | .r u, h => by cases (show v = u from h); rfl
def arIs : AR := fun x y Ω Φ => match y with
  | .d .none => Φ (.d (.bool (isNon x))) Ω
  | _ => False
def arIsNot : AR := fun x y Ω Φ => match y with
  | .d .none => Φ (.d (.bool (!isNon x))) Ω
  | _ => False
theorem jo_is : JOp X G (compareOp .Is) arIs := by
  refine ⟨_, op_isN, ⟨fun {x y Ω Φ} h {P F H vx vy Q} o r1 r2 k => ?_⟩⟩
  unfold arIs at h
  split at h
  · exact ⟨dqn r2, k h o (Same.refl F) (by rw [isNon_ok r1]; exact .bl _)⟩
  · exact h.elim
theorem jo_isnot : JOp X G (compareOp .IsNot) arIsNot := by
  refine ⟨_, op_notN, ⟨fun {x y Ω Φ} h {P F H vx vy Q} o r1 r2 k => ?_⟩⟩
  unfold arIsNot at h
  split at h
  · exact ⟨dqn r2, k h o (Same.refl F) (by rw [isNon_ok r1]; exact .bl _)⟩
  · exact h.elim
/-! ### truth, tests, and, or, not -/
/-- the ways of a truth value -/
structure br (b : Bool) (A B : Prop) : Prop where
  t : b = true → A
  f : b = false → B
theorem br_of {b : Bool} {A B : Prop} (h1 : b = true → A) (h2 : b = false → B) : br b A B := ⟨h1, h2⟩
theorem br_d {p : Prop} [Decidable p] {A B : Prop} (h1 : p → A) (h2 : ¬p → B) : br (decide p) A B := ⟨fun h => h1 (of_decide_eq_true h), fun h => h2 (of_decide_eq_false h)⟩
theorem br_n {b : Bool} {A B : Prop} (h : br b B A) : br (!b) A B := ⟨fun e => h.f (by cases b <;> simp_all), fun e => h.t (by cases b <;> simp_all)⟩
theorem br_T {A B : Prop} (h : A) : br true A B := ⟨fun _ => h, fun e => (by cases e)⟩
theorem br_F {A B : Prop} (h : B) : br false A B := ⟨fun e => (by cases e), fun _ => h⟩
def brX (b : Bool) (A B : Prop) : Prop := match b with
  | true => A
  | false => B
theorem br_out {b : Bool} {A B : Prop} (h : br b A B) : brX b A B := by
  cases b
  · exact h.f rfl
  · exact h.t rfl
theorem br_ite {b : Bool} {A B : Prop} (h : brX b A B) : if b = true then A else B := by
  cases b
  · rw [if_neg Bool.false_ne_true]; exact h
  · rw [if_pos rfl]; exact h
def truD (x : SV) (Ω : Om) (k : Bool → Prop) : Prop := match x with
  | .d .none => k false
  | .d (.bool b) => k b
  | .d (.int i) => k (i != 0)
  | .d (.str y) => y.length ≤ sizeLine ∧ k ((y.length : Int) != 0)
  | x => rdS x Ω fun ds => k (!ds.isEmpty)
theorem truD_ok {E : En} {P F H : Hp} {Ω : Om} {x : SV} {v : V} {k : Bool → Prop} (h : truD x Ω k) (o : Ok E P F H Ω) (r : Rp E.K F v x) : ∃ b, TruV E.K v H b ∧ k b := by
  unfold truD at h
  split at h
  · cases dqn r; exact ⟨false, rfl, h⟩
  · cases dqb r; exact ⟨_, rfl, h⟩
  · cases dqi r; exact ⟨_, rfl, h⟩
  · cases dqs r; exact ⟨_, ⟨h.1, rfl⟩, h.2⟩
  · obtain ⟨a, vs, ds, rfl, hs, da, hk⟩ := rdS_ok h o r
    have ee : (!vs.isEmpty) = !ds.isEmpty := by cases da <;> rfl
    rcases hs with hs | hs
    · exact ⟨_, Or.inl ⟨vs, hs, ee.symm⟩, hk⟩
    · exact ⟨_, Or.inr (Or.inl ⟨vs, hs, ee.symm⟩), hk⟩
def aTru (a : AE) : AT := fun ρ Ω Φ => a ρ Ω fun x Ω' => truD x Ω' fun b => Φ b Ω'
theorem jt_of (ha : JE X G a aa) (he : ∀ whole, isTrue a X.env whole = (do let v ← whole; standAt a.pos; holding [v] (truthy v)) := by intro _; rfl) : JT X G a (aTru aa) := by
  obtain ⟨t, h3, h4⟩ := ha
  refine ⟨_, pt_truth h3 he, ⟨fun {ρ Ω Φ} h {P F H σ Q} o rp k => h4.go h o rp fun {v sv Ω1 F1 H1} q o1 s1 r1 => ?_⟩⟩
  obtain ⟨b, hb, hk⟩ := truD_ok q o1 r1
  exact ⟨b, hb, k hk o1 s1⟩
/-- a comparison as a test -/
def aB (a : AE) : AT := fun ρ Ω Φ => a ρ Ω fun x Ω' => match x with | .d (.bool b) => Φ b Ω' | _ => False
theorem jt_cmp {op : CmpOp} {ar : AR} (ho : JOp X G (compareOp op) ar) (ha : JE X G a aa) (hb : JE X G b ab) (hm : behindInMarks op b = false) : JT X G (.Compare a [op] [b] pos) (aB (aBin ar aa ab)) := by
  obtain ⟨r, h1, h2⟩ := ho
  obtain ⟨t, h3, h4⟩ := ha
  obtain ⟨u, h5, h6⟩ := hb
  refine ⟨_, pt_cmpR h1 h3 h5 hm, ⟨fun {ρ Ω Φ} h {P F H σ Q} o rp k => (bin_ok h4 h6 h2).go h o rp fun {v sv Ω1 F1 H1} q o1 s1 r1 => ?_⟩⟩
  dsimp only at q
  split at q
  · exact ⟨_, dqb r1, k q o1 s1⟩
  · exact q.elim
def aAnd (t u : AT) : AT := fun ρ Ω Φ => t ρ Ω fun b Ω1 => br b (u ρ Ω1 Φ) (Φ false Ω1)
def aOr (t u : AT) : AT := fun ρ Ω Φ => t ρ Ω fun b Ω1 => br b (Φ true Ω1) (u ρ Ω1 Φ)
def aNot (t : AT) : AT := fun ρ Ω Φ => t ρ Ω fun b Ω1 => Φ (!b) Ω1
theorem jw_pt (h : JW X G a at_) : JT X G a at_ := by
  obtain ⟨t, h1, h2⟩ := h
  exact ⟨t, h1.pt, h2⟩
theorem jw_and1 (h : JT X G a at_) : JW X G (.BoolOp .And [a] pos) at_ := by
  obtain ⟨t, h1, h2⟩ := h
  exact ⟨t, pw_and1 h1, h2⟩
theorem jw_or1 (h : JT X G a at_) : JW X G (.BoolOp .Or [a] pos) at_ := by
  obtain ⟨t, h1, h2⟩ := h
  exact ⟨t, pw_or1 h1, h2⟩
theorem jw_and {rest : List Expr} (h : JT X G a at_) (h' : JW X G (.BoolOp .And (b :: rest) pos) bt) : JW X G (.BoolOp .And (a :: b :: rest) pos) (aAnd at_ bt) := by
  obtain ⟨t, h1, h2⟩ := h
  obtain ⟨u, h3, h4⟩ := h'
  refine ⟨_, pw_and h1 h3, ⟨fun {ρ Ω Φ} h {P F H σ Q} o rp k => h2.go h o rp fun {b Ω1 F1 H1} q o1 s1 => br_ite ?_⟩⟩
  replace q := br_out q
  cases b
  · exact k q o1 s1
  · exact h4.go q o1 (rpe_same s1 rp) fun q2 o2 s2 => k q2 o2 (s1.trans s2)
theorem jw_or {rest : List Expr} (h : JT X G a at_) (h' : JW X G (.BoolOp .Or (b :: rest) pos) bt) : JW X G (.BoolOp .Or (a :: b :: rest) pos) (aOr at_ bt) := by
  obtain ⟨t, h1, h2⟩ := h
  obtain ⟨u, h3, h4⟩ := h'
  refine ⟨_, pw_or h1 h3, ⟨fun {ρ Ω Φ} h {P F H σ Q} o rp k => h2.go h o rp fun {b Ω1 F1 H1} q o1 s1 => br_ite ?_⟩⟩
  replace q := br_out q
  cases b
  · exact h4.go q o1 (rpe_same s1 rp) fun q2 o2 s2 => k q2 o2 (s1.trans s2)
  · exact k q o1 s1
theorem jt_not (h : JT X G a at_) : JT X G (.UnaryOp .Not a pos) (aNot at_) := by
  obtain ⟨t, h1, h2⟩ := h
  exact ⟨_, pt_not h1, ⟨fun {ρ Ω Φ} h {P F H σ Q} o rp k => h2.go h o rp fun q o1 s1 => k q o1 s1⟩⟩
/-- and, or, not as values: all but the last True or False -/
def aAndV (a b : AE) : AE := fun ρ Ω Φ => a ρ Ω fun x Ω1 => match x with
  | .d (.bool c) => br c (b ρ Ω1 Φ) (Φ (.d (.bool false)) Ω1)
  | _ => False
def aOrV (a b : AE) : AE := fun ρ Ω Φ => a ρ Ω fun x Ω1 => match x with
  | .d (.bool c) => br c (Φ (.d (.bool true)) Ω1) (b ρ Ω1 Φ)
  | _ => False
def aNotV (a : AE) : AE := fun ρ Ω Φ => a ρ Ω fun x Ω1 => match x with
  | .d (.bool c) => Φ (.d (.bool (!c))) Ω1
  | _ => False
theorem je_one {op} (h : JE X G a aa) : JE X G (.BoolOp op [a] pos) aa := by
  obtain ⟨t, h1, h2⟩ := h
  exact ⟨t, pe_one h1, h2⟩
theorem je_and {rest : List Expr} (h : JE X G a aa) (h' : JE X G (.BoolOp .And (b :: rest) pos) ab) : JE X G (.BoolOp .And (a :: b :: rest) pos) (aAndV aa ab) := by
  obtain ⟨t, h1, h2⟩ := h
  obtain ⟨u, h3, h4⟩ := h'
  refine ⟨_, pe_and h1 h3, ⟨fun {ρ Ω Φ} h {P F H σ Q} o rp k => h2.go h o rp fun {v sv Ω1 F1 H1} q o1 s1 r1 => ?_⟩⟩
  dsimp only at q
  split at q
  · rename_i c
    refine ⟨c, dqb r1, br_ite ?_⟩
    replace q := br_out q
    cases c
    · exact k q o1 s1 (.bl _)
    · exact h4.go q o1 (rpe_same s1 rp) fun q2 o2 s2 r2 => k q2 o2 (s1.trans s2) r2
  · exact q.elim
theorem je_or {rest : List Expr} (h : JE X G a aa) (h' : JE X G (.BoolOp .Or (b :: rest) pos) ab) : JE X G (.BoolOp .Or (a :: b :: rest) pos) (aOrV aa ab) := by
  obtain ⟨t, h1, h2⟩ := h
  obtain ⟨u, h3, h4⟩ := h'
  refine ⟨_, pe_or h1 h3, ⟨fun {ρ Ω Φ} h {P F H σ Q} o rp k => h2.go h o rp fun {v sv Ω1 F1 H1} q o1 s1 r1 => ?_⟩⟩
  dsimp only at q
  split at q
  · rename_i c
    refine ⟨c, dqb r1, br_ite ?_⟩
    replace q := br_out q
    cases c
    · exact h4.go q o1 (rpe_same s1 rp) fun q2 o2 s2 r2 => k q2 o2 (s1.trans s2) r2
    · exact k q o1 s1 (.bl _)
  · exact q.elim
theorem je_not (h : JE X G a aa) : JE X G (.UnaryOp .Not a pos) (aNotV aa) := by
  obtain ⟨t, h1, h2⟩ := h
  refine ⟨_, pe_not h1, ⟨fun {ρ Ω Φ} h {P F H σ Q} o rp k => h2.go h o rp fun {v sv Ω1 F1 H1} q o1 s1 r1 => ?_⟩⟩
  dsimp only at q
  split at q
  · exact ⟨_, dqb r1, k q o1 s1 (.bl _)⟩
  · exact q.elim
def aIfE (t : AT) (a b : AE) : AE := fun ρ Ω Φ => t ρ Ω fun c Ω1 => br c (a ρ Ω1 Φ) (b ρ Ω1 Φ)
theorem je_if {c : Expr} (ht : JT X G c at_) (ha : JE X G a aa) (hb : JE X G b ab) : JE X G (.IfExp c a b pos) (aIfE at_ aa ab) := by
  obtain ⟨t, h1, h2⟩ := ht
  obtain ⟨ta, h3, h4⟩ := ha
  obtain ⟨tb, h5, h6⟩ := hb
  refine ⟨_, pe_ifExp h1 h3 h5, ⟨fun {ρ Ω Φ} h {P F H σ Q} o rp k => h2.go h o rp fun {c Ω1 F1 H1} q o1 s1 => br_ite ?_⟩⟩
  replace q := br_out q
  cases c
  · exact h6.go q o1 (rpe_same s1 rp) fun q2 o2 s2 r2 => k q2 o2 (s1.trans s2) r2
  · exact h4.go q o1 (rpe_same s1 rp) fun q2 o2 s2 r2 => k q2 o2 (s1.trans s2) r2
/-! ### argument lists, displays -/
def aNil : AA := fun _ Ω Φ => Φ [] Ω
def aCons (a : AE) (t : AA) : AA := fun ρ Ω Φ => a ρ Ω fun x Ω1 => t ρ Ω1 fun xs Ω2 => Φ (x :: xs) Ω2
theorem cons_ok {E : En} {ta : TE} {tr : TA} {ar : AA} (h1 : SnE E ta aa) (h2 : SnA E tr ar) : SnA E (tCons ta tr) (aCons aa ar) := ⟨fun {ρ Ω Φ} h {P F H σ Q} o rp k =>
  h1.go h o rp fun {v sv Ω1 F1 H1} q o1 s1 r1 => h2.go q o1 (rpe_same s1 rp) fun {vs svs Ω2 F2 H2} q2 o2 s2 r2 => k q2 o2 (s1.trans s2) (.cons (r1.same s2) r2)⟩
theorem ja_nil : JA X G [] aNil := ⟨_, pa_nil, ⟨fun {ρ Ω Φ} h {P F H σ Q} o rp k => k h o (Same.refl F) .nil⟩⟩
theorem ja_cons {es : List Expr} {ar : AA} (ha : JE X G e aa) (hr : JA X G es ar) (hs : starEach (e :: es) X.env = (false, eval e X.env) :: starEach es X.env := by rfl) : JA X G (e :: es) (aCons aa ar) := by
  obtain ⟨t, h1, h2⟩ := ha
  obtain ⟨u, h3, h4⟩ := hr
  exact ⟨_, pa_cons h1 h3 hs, cons_ok h2 h4⟩
theorem jk_nil : JK X G [] aNil := ⟨_, pk_nil, ⟨fun {ρ Ω Φ} h {P F H σ Q} o rp k => k h o (Same.refl F) .nil⟩⟩
theorem jk_cons {kws : List Keyword} {ar : AA} {nm : Option Str} {kpos : Pos} (ha : JE X G e aa) (hr : JK X G kws ar) : JK X G (⟨nm, e, kpos⟩ :: kws) (aCons aa ar) := by
  obtain ⟨t, h1, h2⟩ := ha
  obtain ⟨u, h3, h4⟩ := hr
  exact ⟨_, pk_cons h1 h3, cons_ok h2 h4⟩
def aTup (t : AA) : AE := fun ρ Ω Φ => t ρ Ω fun xs Ω' => xs.length ≤ sizeLine ∧ match dataOf xs with | some ds => Φ (.d (.tuple ds)) Ω' | none => False
theorem je_tup {es : List Expr} {ar : AA} {x1} (h : JA X G es ar) : JE X G (.Tuple es x1 pos) (aTup ar) := by
  obtain ⟨t, h1, h2⟩ := h
  refine ⟨_, pe_tup h1, ⟨fun {ρ Ω Φ} h {P F H σ Q} o rp k => h2.go h o rp fun {vs svs Ω1 F1 H1} q o1 s1 r1 => ⟨by rw [r1.length]; exact q.1, fun p hp => ?_⟩⟩⟩
  have q2 := q.2
  split at q2
  · rename_i ds e
    obtain ⟨o2, s2⟩ := o1.newF (o := .tup vs) hp
    exact k q2 o2 (s1.trans s2) (Dq.tup (SqT.of upd_same) (dqa_same s2 _ _ (dataOf_ok e r1)))
  · exact q2.elim
def aLst (m : Mode) (t : AA) : AE := fun ρ Ω Φ => t ρ Ω fun xs Ω' => xs.length ≤ sizeLine ∧ newX m xs Ω' Φ
theorem je_lst {es : List Expr} {ar : AA} (hm : MOk (enX X G) m) (h : JA X G es ar) : JE X G (.List es pos) (aLst m ar) := by
  obtain ⟨t, h1, h2⟩ := h
  exact ⟨_, pe_lst h1, ⟨fun {ρ Ω Φ} h {P F H σ Q} o rp k => h2.go h o rp fun {vs svs Ω1 F1 H1} q o1 s1 r1 => ⟨by rw [r1.length]; exact q.1, fun p hp => newX_ok hm o1 r1 q.2 (fun q2 o2 s2 r2 => k q2 o2 (s1.trans s2) r2) hp⟩⟩⟩
end
end Z
/-! Z4: subscripts, slices, built-ins, methods, calls of defs; what a for walks; statements. -/
namespace Z
open PySem PySem.Spec PyProof.Rows L2
theorem dqa_rev {K : Frag} {F : Hp} {vs : List V} {ds : List PyData} (h : DqAll K F vs ds) : DqAll K F vs.reverse ds.reverse := by
  have q := pr_rev (of_dqa h)
  rw [← List.map_reverse] at q
  exact dqa_of q
theorem dqa_take {K : Frag} {F : Hp} {vs : List V} {ds : List PyData} (n : Nat) (h : DqAll K F vs ds) : DqAll K F (vs.take n) (ds.take n) := by
  have q := pr_take n (of_dqa h)
  rw [← List.map_take] at q
  exact dqa_of q
theorem dqa_drop {K : Frag} {F : Hp} {vs : List V} {ds : List PyData} (n : Nat) (h : DqAll K F vs ds) : DqAll K F (vs.drop n) (ds.drop n) := by
  have q := pr_drop n (of_dqa h)
  rw [← List.map_drop] at q
  exact dqa_of q
theorem dqa_get {K : Frag} {F : Hp} {vs : List V} {ds : List PyData} {i : Nat} {d : PyData} (h : DqAll K F vs ds) (e : ds[i]? = some d) : ∃ v, vs[i]? = some v ∧ Dq K F v d :=
  pr_get (R := Rp K F) (of_dqa h) (i := i) (y := .d d) (by rw [List.getElem?_map, e]; rfl)
theorem dqa_getL {K : Frag} {F : Hp} {vs : List V} {ds : List PyData} {i : Nat} {v : V} (h : DqAll K F vs ds) (e : vs[i]? = some v) : ∃ d, ds[i]? = some d ∧ Dq K F v d := by
  obtain ⟨y, hy, r⟩ := pr_getL (of_dqa h) e
  rw [List.getElem?_map] at hy
  cases hd : ds[i]? with
  | none => rw [hd] at hy; cases hy
  | some d => rw [hd] at hy; cases hy; exact ⟨d, rfl, r⟩
theorem dqa_set {K : Frag} {F : Hp} {vs : List V} {ds : List PyData} {v : V} {d : PyData} (i : Nat) (h : DqAll K F vs ds) (r : Dq K F v d) : DqAll K F (vs.set i v) (ds.set i d) := by
  have q := pr_set (R := Rp K F) (x := v) (y := .d d) r i (of_dqa h)
  rw [← List.map_set] at q
  exact dqa_of q
theorem dqa_erase {K : Frag} {F : Hp} {vs : List V} {ds : List PyData} (i : Nat) (h : DqAll K F vs ds) : DqAll K F (vs.eraseIdx i) (ds.eraseIdx i) := by
  have q := pr_erase i (of_dqa h)
  have e : (ds.map SV.d).eraseIdx i = (ds.eraseIdx i).map SV.d := by
    rw [List.eraseIdx_eq_take_drop_succ, List.eraseIdx_eq_take_drop_succ, List.map_append, List.map_take, List.map_drop]
  rw [e] at q
  exact dqa_of q
theorem dqa_ints {K : Frag} {F : Hp} : ∀ {vs : List V} {ns : List Int}, DqAll K F vs (ns.map PyData.int) → vs = ns.map V.int
  | _, [], h => by cases h; rfl
  | _, n :: ns, h => by
    cases h with
    | cons r t => rw [dqi r, dqa_ints t]; rfl
theorem ints_dqa {K : Frag} {F : Hp} : ∀ (ns : List Int), DqAll K F (ns.map V.int) (ns.map PyData.int)
  | [] => .nil
  | n :: ns => .cons (.int n) (ints_dqa ns)
theorem dqa_bools {K : Frag} {F : Hp} : ∀ {vs : List V} {ns : List Bool}, DqAll K F vs (ns.map PyData.bool) → vs = ns.map V.bl
  | _, [], h => by cases h; rfl
  | _, n :: ns, h => by
    cases h with
    | cons r t => rw [dqb r, dqa_bools t]; rfl
theorem at_len {K : Frag} {F : Hp} {vs : List V} {ds : List PyData} {i : Int} {d : PyData} (h : DqAll K F vs ds) (e : atI ds i = some d) : ∃ v, atI vs i = some v ∧ Dq K F v d := by
  unfold atI at e ⊢
  rw [dqa_len h]
  cases q : ixN ds.length i with
  | none => rw [q] at e; cases e
  | some j => rw [q] at e; exact dqa_get h e
theorem at_lenX {K : Frag} {F : Hp} {vs : List V} {xs : List SV} {i : Int} {x : SV} (h : Paired (Rp K F) vs xs) (e : atI xs i = some x) : ∃ v, atI vs i = some v ∧ Rp K F v x := by
  unfold atI at e ⊢
  rw [h.length]
  cases q : ixN xs.length i with
  | none => rw [q] at e; cases e
  | some j => rw [q] at e; exact pr_get h e
/-- the items of xs[lo:hi] -/
def cutD {α : Type} (xs : List α) (lo hi : Option Int) : List α := (xs.drop (HT.sIx xs.length 0 lo)).take (HT.sIx xs.length xs.length hi - HT.sIx xs.length 0 lo)
theorem dqa_cut {K : Frag} {F : Hp} {vs : List V} {ds : List PyData} (lo hi : Option Int) (h : DqAll K F vs ds) : DqAll K F (cutV vs lo hi) (cutD ds lo hi) := by
  unfold cutV cutD
  rw [dqa_len h]
  exact dqa_take _ (dqa_drop _ h)
section
variable {X : Cx} {G : Gn} {e a b : Expr} {aa ab : AE} {at_ bt : AT} {ta : AA} {pos : Pos} {m : Mode}
/-! ### a[i] -/
def ixC (c : OC) (i : Int) (Ω : Om) (Φ : PhiE) : Prop := match c with
  | .lst ds => ∃ d, atI ds i = some d ∧ Φ (.d d) Ω
  | .lx xs => ∃ x, atI xs i = some x ∧ Φ x Ω
  | _ => False
def arIx : AR := fun x y Ω Φ => match x, y with
  | .d (.list ds), .d (.int i) => ∃ d, atI ds i = some d ∧ Φ (.d d) Ω
  | .d (.tuple ds), .d (.int i) => ∃ d, atI ds i = some d ∧ Φ (.d d) Ω
  | .d (.str z), .d (.int i) => z.length ≤ sizeLine ∧ ∃ c, atI z.cps.toList i = some c ∧ Φ (.d (.str ⟨#[c]⟩)) Ω
  | .l ds, .d (.int i) => ∃ d, atI ds i = some d ∧ Φ (.d d) Ω
  | .r (.ref p), .d (.int i) => ∃ c f, At Ω p c f ∧ ixC c i Ω Φ
  | _, _ => False
theorem jx_seq : JIx X G arIx := by
  refine ⟨_, ix_seq, ⟨fun {x y Ω Φ} h {P F H vx vy Q} o r1 r2 k => ?_⟩⟩
  unfold arIx at h
  split at h
  · obtain ⟨d, e, q⟩ := h
    obtain ⟨p, vs, rfl, hF, da⟩ := dql r1
    obtain ⟨v, e2, rv⟩ := at_len da e
    exact Or.inl ⟨p, vs, _, v, rfl, dqi r2, SqL.of (o.ex _ _ hF), e2, k q o (Same.refl F) rv⟩
  · obtain ⟨d, e, q⟩ := h
    obtain ⟨p, vs, rfl, hF, da⟩ := dqt r1
    obtain ⟨v, e2, rv⟩ := at_len da e
    exact Or.inr (Or.inl ⟨p, vs, _, v, rfl, dqi r2, sqt_same o.ex hF, e2, k q o (Same.refl F) rv⟩)
  · obtain ⟨hz, c, e, q⟩ := h
    exact Or.inr (Or.inr ⟨_, _, c, dqs r1, dqi r2, hz, e, k q o (Same.refl F) (.str _)⟩)
  · obtain ⟨d, e, q⟩ := h
    obtain ⟨p, vs, rfl, hF, da⟩ := r1
    obtain ⟨v, e2, rv⟩ := at_len da e
    exact Or.inl ⟨p, vs, _, v, rfl, dqi r2, o.ex.seq hF, e2, k q o (Same.refl F) rv⟩
  · obtain ⟨c, f, t, q⟩ := h
    cases r1
    unfold ixC at q
    split at q
    · obtain ⟨d, e, q⟩ := q
      obtain ⟨vs, h1, h2⟩ := o.lst t
      obtain ⟨v, e2, rv⟩ := at_len h2 e
      exact Or.inl ⟨_, vs, _, v, rfl, dqi r2, SqL.of h1, e2, k q o (Same.refl F) rv⟩
    · obtain ⟨d, e, q⟩ := q
      obtain ⟨vs, h1, h2⟩ := o.lx t
      obtain ⟨v, e2, rv⟩ := at_lenX h2 e
      exact Or.inl ⟨_, vs, _, v, rfl, dqi r2, SqL.of h1, e2, k q o (Same.refl F) rv⟩
    · exact q.elim
  · exact h.elim
theorem je_ix {ar : AR} (hr : JIx X G ar) (ha : JE X G a aa) (hb : JE X G b ab) (hs : PlainIx b) : JE X G (.Subscript a b pos) (aBin ar aa ab) := by
  obtain ⟨r, h1, h2⟩ := hr
  obtain ⟨t, h3, h4⟩ := ha
  obtain ⟨u, h5, h6⟩ := hb
  exact ⟨_, pe_ix h1 h3 h5 hs, bin_ok h4 h6 h2⟩
/-! ### a[lo:hi] -/
abbrev AO := Rho → Om → (Option Int → Om → Prop) → Prop
structure SnO (E : En) (te : TO) (a : AO) : Prop where
  go : ∀ {ρ : Rho} {Ω : Om} {Φ : Option Int → Om → Prop}, a ρ Ω Φ → ∀ {P F H : Hp} {σ : L2.St} {Q : Option Int → Hp → Prop}, Ok E P F H Ω → RpE E.K F σ ρ →
    (∀ {b : Option Int} {Ω' : Om} {F' H' : Hp}, Φ b Ω' → Ok E P F' H' Ω' → Same F F' → Q b H') → te σ H Q
def JO (X : Cx) (G : Gn) (e : Option Expr) (a : AO) : Prop := ∃ te, PO X e te ∧ SnO (enX X G) te a
def aNoP : AO := fun _ Ω Φ => Φ none Ω
def aPart (a : AE) : AO := fun ρ Ω Φ => a ρ Ω fun x Ω' => match x with | .d (.int i) => Φ (some i) Ω' | _ => False
theorem jp_none : JO X G none aNoP := ⟨_, po_none, ⟨fun {ρ Ω Φ} h {P F H σ Q} o rp k => k h o (Same.refl F)⟩⟩
theorem jp_some (ha : JE X G a aa) : JO X G (some a) (aPart aa) := by
  obtain ⟨t, h1, h2⟩ := ha
  refine ⟨_, po_some h1, ⟨fun {ρ Ω Φ} h {P F H σ Q} o rp k => h2.go h o rp fun {v sv Ω1 F1 H1} q o1 s1 r1 => ?_⟩⟩
  dsimp only at q
  split at q
  · exact ⟨_, dqi r1, k q o1 s1⟩
  · exact q.elim
def slR (m : Mode) (x : SV) (lo hi : Option Int) (Ω : Om) (Φ : PhiE) : Prop := match x with
  | .d (.tuple ds) => Φ (.d (.tuple (cutD ds lo hi))) Ω
  | .l ds => newL m (cutD ds lo hi) Ω Φ
  | x => rdL x Ω fun ds => newL m (cutD ds lo hi) Ω Φ
def aSl (m : Mode) (a : AE) (lo hi : AO) : AE := fun ρ Ω Φ => a ρ Ω fun x Ω1 => lo ρ Ω1 fun i Ω2 => hi ρ Ω2 fun j Ω3 => slR m x i j Ω3 Φ
theorem cut_all {α : Type} {xs : List α} {lo hi : Option Int} (h : HT.sIx xs.length 0 lo = 0 ∧ HT.sIx xs.length xs.length hi = xs.length) : cutD xs lo hi = xs := by
  unfold cutD
  rw [h.1, h.2, List.drop_zero, Nat.sub_zero, List.take_length]
theorem je_sl {lo hi : Option Expr} {al ah : AO} {p2 : Pos} (hm : MOk (enX X G) m) (ha : JE X G a aa) (hl : JO X G lo al) (hh : JO X G hi ah) : JE X G (.Subscript a (.Slice lo hi none p2) pos) (aSl m aa al ah) := by
  obtain ⟨t, h1, h2⟩ := ha
  obtain ⟨u, h3, h4⟩ := hl
  obtain ⟨w, h5, h6⟩ := hh
  refine ⟨_, pe_slice (SlR.or sl_tupA sl_list) h1 h3 h5, ⟨fun {ρ Ω Φ} h {P F H σ Q} o rp k => h2.go h o rp fun {v sv Ω1 F1 H1} q o1 s1 r1 => h4.go q o1 (rpe_same s1 rp) fun {i Ω2 F2 H2} q2 o2 s2 => h6.go q2 o2 (rpe_same (s1.trans s2) rp) fun {j Ω3 F3 H3} q3 o3 s3 => ?_⟩⟩
  have r3 := (r1.same s2).same s3
  have k3 : Aft (enX X G) P F3 Φ Q := fun p1 p2 p3 p4 => k p1 p2 (((s1.trans s2).trans s3).trans p3) p4
  unfold slR at q3
  split at q3
  · rename_i ds
    obtain ⟨p, vs, rfl, hF, da⟩ := dqt r3
    refine Or.inl ⟨p, vs, rfl, sqt_same o3.ex hF, fun z => ?_, fun z q hq => ?_⟩
    · rw [dqa_len da] at z
      rw [cut_all z] at q3
      exact k3 q3 o3 (Same.refl F3) r3
    · obtain ⟨o4, s4⟩ := o3.newF (o := .tup (cutV vs i j)) hq
      exact k3 q3 o4 s4 (Dq.tup (SqT.of upd_same) (dqa_same s4 _ _ (dqa_cut i j da)))
  · obtain ⟨p, vs, rfl, hF, da⟩ := r3
    exact Or.inr ⟨p, vs, rfl, o3.ex.seq hF, fun q hq => newL_ok hm o3 (dqa_cut i j da) q3 k3 hq⟩
  · obtain ⟨p, vs, ds, rfl, hF, da, q4⟩ := rdL_ok q3 o3 r3
    exact Or.inr ⟨p, vs, rfl, SqL.of hF, fun q hq => newL_ok hm o3 (dqa_cut i j da) q4 k3 hq⟩
/-! ### built-ins -/
def aCB (ac : AC) (t : AA) : AE := fun ρ Ω Φ => t ρ Ω fun xs Ω' => ac xs Ω' Φ
theorem cb_ok {E : En} {r : List V → Hp → VK → Prop} {ac : AC} {t : TA} (h1 : SnA E t ta) (h2 : SnC E r ac) : SnE E (tCB r t) (aCB ac ta) := ⟨fun {ρ Ω Φ} h {P F H σ Q} o rp k =>
  h1.go h o rp fun q o1 s1 r1 => h2.go q o1 r1 fun q2 o2 s2 r2 => k q2 o2 (s1.trans s2) r2⟩
theorem je_callB {id : String} {ac : AC} {x : Str} {p : Pos} {es : List Expr} (hc : JC X G (.builtin id) ac) (hg : Gl X x) (hm : X.mg x = none) (hv : bootBuiltins x = some (.builtin id)) (ha : JA X G (e :: es) ta) (hn : x ≠ "__name__" := by decide) (hdb : (x == ("__debug__" : Str)) = false := by decide)
    (he : starEach (e :: es) X.env = (false, eval e X.env) :: starEach es X.env := by rfl) (hpl : (backTo pos (starEach es X.env)).any (·.1) = false := by rfl) : JE X G (.Call (.Name x p) (e :: es) [] pos) (aCB ac ta) := by
  obtain ⟨r, h1, h2⟩ := hc
  obtain ⟨t, h3, h4⟩ := ha
  exact ⟨_, pe_callB h1 hg hm hv h3 hn hdb he hpl, cb_ok h4 h2⟩
theorem je_callTy {T : String} {ac : AC} {x : Str} {p : Pos} {es : List Expr} (hc : JC X G (.type T) ac) (hg : Gl X x) (hm : X.mg x = none) (hv : bootBuiltins x = some (.type T)) (ha : JA X G (e :: es) ta) (hn : x ≠ "__name__" := by decide) (hdb : (x == ("__debug__" : Str)) = false := by decide)
    (he : starEach (e :: es) X.env = (false, eval e X.env) :: starEach es X.env := by rfl) (hpl : (backTo pos (starEach es X.env)).any (·.1) = false := by rfl) : JE X G (.Call (.Name x p) (e :: es) [] pos) (aCB ac ta) := by
  obtain ⟨r, h1, h2⟩ := hc
  obtain ⟨t, h3, h4⟩ := ha
  exact ⟨_, pe_callTy h1 hg hm hv h3 hn hdb he hpl, cb_ok h4 h2⟩
theorem pr1 {α β : Type} {R : α → β → Prop} {vs : List α} {x : β} (h : Paired R vs [x]) : ∃ v, vs = [v] ∧ R v x := by
  cases h with
  | cons r t => cases t; exact ⟨_, rfl, r⟩
theorem pr2 {α β : Type} {R : α → β → Prop} {vs : List α} {x y : β} (h : Paired R vs [x, y]) : ∃ v u, vs = [v, u] ∧ R v x ∧ R u y := by
  cases h with
  | cons r t =>
    obtain ⟨u, rfl, r2⟩ := pr1 t
    exact ⟨_, u, rfl, r, r2⟩
/-- of one argument -/
def ac1 (f : SV → Om → PhiE → Prop) : AC := fun xs Ω Φ => match xs with
  | [x] => f x Ω Φ
  | _ => False
def ac2 (f : SV → SV → Om → PhiE → Prop) : AC := fun xs Ω Φ => match xs with
  | [x, y] => f x y Ω Φ
  | _ => False
theorem ac1_ok {E : En} {r : List V → Hp → VK → Prop} {f : SV → Om → PhiE → Prop}
    (h : ∀ {x : SV} {Ω : Om} {Φ : PhiE}, f x Ω Φ → ∀ {P F H : Hp} {v : V} {Q : VK}, Ok E P F H Ω → Rp E.K F v x → Aft E P F Φ Q → r [v] H Q) : SnC E r (ac1 f) := by
  refine ⟨fun {xs Ω Φ} q {P F H vs Q} o rp k => ?_⟩
  unfold ac1 at q
  split at q
  · obtain ⟨v, rfl, r1⟩ := pr1 rp
    exact h q o r1 k
  · exact q.elim
theorem ac2_ok {E : En} {r : List V → Hp → VK → Prop} {f : SV → SV → Om → PhiE → Prop}
    (h : ∀ {x y : SV} {Ω : Om} {Φ : PhiE}, f x y Ω Φ → ∀ {P F H : Hp} {v u : V} {Q : VK}, Ok E P F H Ω → Rp E.K F v x → Rp E.K F u y → Aft E P F Φ Q → r [v, u] H Q) : SnC E r (ac2 f) := by
  refine ⟨fun {xs Ω Φ} q {P F H vs Q} o rp k => ?_⟩
  unfold ac2 at q
  split at q
  · obtain ⟨v, u, rfl, r1, r2⟩ := pr2 rp
    exact h q o r1 r2 k
  · exact q.elim
def fLen (x : SV) (Ω : Om) (Φ : PhiE) : Prop := match x with
  | .d (.str z) => z.length ≤ sizeLine ∧ Φ (.d (.int z.length)) Ω
  | x => rdS x Ω fun ds => Φ (.d (.int ds.length)) Ω
abbrev acLen : AC := ac1 fLen
theorem jc_len : JC X G (.builtin "len") acLen := by
  refine ⟨fun xs H Q => (∃ p ys, xs = [.ref p] ∧ (SqL X.K H p ys ∨ SqT X.K H p ys) ∧ Q (.int ys.length) H) ∨ ∃ z, xs = [.str z] ∧ z.length ≤ sizeLine ∧ Q (.int z.length) H, fun pins s σ H xs us Q I r h => ?_, ac1_ok fun {x Ω Φ} h {P F H v Q} o r k => ?_⟩
  · rcases h with h | h
    · exact call_len_seq pins s σ H xs us Q I r h
    · exact call_len_str pins s σ H xs us Q I r h
  · unfold fLen at h
    split at h
    · cases dqs r; exact Or.inr ⟨_, rfl, h.1, k h.2 o (Same.refl F) (.int _)⟩
    · obtain ⟨p, vs, ds, rfl, hs, da, q⟩ := rdS_ok h o r
      refine Or.inl ⟨p, vs, rfl, hs, k q o (Same.refl F) ?_⟩
      rw [dqa_len da]
      exact .int _
def fI1 (g : Int → Int) (x : SV) (Ω : Om) (Φ : PhiE) : Prop := match x with
  | .d (.int i) => Φ (.d (.int (g i))) Ω
  | _ => False
abbrev acAbs : AC := ac1 (fI1 fun i => if i < 0 then -i else i)
theorem jc_abs : JC X G (.builtin "abs") acAbs := by
  refine ⟨_, call_abs, ac1_ok fun {x Ω Φ} h {P F H v Q} o r k => ?_⟩
  unfold fI1 at h
  split at h
  · cases dqi r; exact ⟨_, rfl, k h o (Same.refl F) (.int _)⟩
  · exact h.elim
def fInt (x : SV) (Ω : Om) (Φ : PhiE) : Prop := match x with
  | .d (.int i) => Φ (.d (.int i)) Ω
  | .d (.bool b) => Φ (.d (.int (if b then 1 else 0))) Ω
  | _ => False
abbrev acInt : AC := ac1 fInt
theorem jc_int : JC X G (.type "int") acInt := by
  refine ⟨_, call_int1, ac1_ok fun {x Ω Φ} h {P F H v Q} o r k => ?_⟩
  unfold fInt at h
  split at h
  · cases dqi r; exact Or.inl ⟨_, rfl, k h o (Same.refl F) (.int _)⟩
  · cases dqb r; exact Or.inr ⟨_, rfl, k h o (Same.refl F) (.int _)⟩
  · exact h.elim
def fI2 (g : Int → Int → Int) (x y : SV) (Ω : Om) (Φ : PhiE) : Prop := match x, y with
  | .d (.int i), .d (.int j) => Φ (.d (.int (g i j))) Ω
  | _, _ => False
abbrev acMax2 : AC := ac2 (fI2 fun i j => if j > i then j else i)
abbrev acMin2 : AC := ac2 (fI2 fun i j => if j < i then j else i)
theorem jc_max2 (hc : X.calm = true) : JC X G (.builtin "max") acMax2 := by
  refine ⟨_, call_max2 hc, ac2_ok fun {x y Ω Φ} h {P F H v u Q} o r1 r2 k => ?_⟩
  unfold fI2 at h
  split at h
  · cases dqi r1; cases dqi r2; exact ⟨_, _, rfl, k h o (Same.refl F) (.int _)⟩
  · exact h.elim
theorem jc_min2 (hc : X.calm = true) : JC X G (.builtin "min") acMin2 := by
  refine ⟨_, call_min2 hc, ac2_ok fun {x y Ω Φ} h {P F H v u Q} o r1 r2 k => ?_⟩
  unfold fI2 at h
  split at h
  · cases dqi r1; cases dqi r2; exact ⟨_, _, rfl, k h o (Same.refl F) (.int _)⟩
  · exact h.elim
/-- tuple(x), list(x) of lists and tuples -/
def fTupOf (x : SV) (Ω : Om) (Φ : PhiE) : Prop := match x with
  | .d (.tuple ds) => Φ (.d (.tuple ds)) Ω
  | .l ds => Φ (.d (.tuple ds)) Ω
  | x => rdL x Ω fun ds => Φ (.d (.tuple ds)) Ω
abbrev acTupOf : AC := ac1 fTupOf
theorem jc_tupleOf : JC X G (.type "tuple") acTupOf := by
  refine ⟨_, call_tuple_of, ac1_ok fun {x Ω Φ} h {P F H v Q} o r k => ?_⟩
  have fin : ∀ {p : Addr} {vs : List V} {ds : List PyData}, DqAll X.K F vs ds → Φ (.d (.tuple ds)) Ω → ∀ l, H l = none → Q (.ref l) (upd H l (.tup vs)) := fun {p vs ds} da q l hl => by
    obtain ⟨o1, s1⟩ := o.newF (o := .tup vs) hl
    exact k q o1 s1 (Dq.tup (SqT.of upd_same) (dqa_same s1 _ _ da))
  unfold fTupOf at h
  split at h
  · obtain ⟨p, vs, rfl, hF, da⟩ := dqt r
    exact ⟨p, vs, rfl, Or.inr ⟨sqt_same o.ex hF, k h o (Same.refl F) r⟩⟩
  · obtain ⟨p, vs, rfl, hF, da⟩ := r
    exact ⟨p, vs, rfl, Or.inl ⟨o.ex.seq hF, fin (p := p) da h⟩⟩
  · obtain ⟨p, vs, ds, rfl, hs, da, q⟩ := rdL_ok h o r
    exact ⟨p, vs, rfl, Or.inl ⟨SqL.of hs, fin (p := p) da q⟩⟩
def fLstOf (m : Mode) (x : SV) (Ω : Om) (Φ : PhiE) : Prop := rdS x Ω fun ds => newL m ds Ω Φ
abbrev acLstOf (m : Mode) : AC := ac1 (fLstOf m)
theorem jc_listOf (hm : MOk (enX X G) m) : JC X G (.type "list") (acLstOf m) := by
  refine ⟨_, call_list_of, ac1_ok fun {x Ω Φ} h {P F H v Q} o r k => ?_⟩
  obtain ⟨p, vs, ds, rfl, hs, da, q⟩ := rdS_ok h o r
  exact ⟨p, vs, rfl, hs, fun l hl => newL_ok hm o da q k hl⟩
/-- list(range(n)), list(range(a, b)) -/
def rgD (a b : Int) : List PyData := (List.range (b - a).toNat).map fun i => PyData.int (a + (i : Nat))
theorem dqa_rg {K : Frag} {F : Hp} (a b : Int) : DqAll K F (rgV a b) (rgD a b) := by
  unfold rgV rgD
  generalize List.range (b - a).toNat = l
  induction l with
  | nil => exact .nil
  | cons i l ih => exact .cons (.int _) ih
abbrev ARg := Rho → Om → (Int → Int → Om → Prop) → Prop
def aRg1 (a : AE) : ARg := fun ρ Ω Φ => a ρ Ω fun x Ω' => match x with | .d (.int n) => Φ 0 n Ω' | _ => False
def aRg2 (a b : AE) : ARg := fun ρ Ω Φ => a ρ Ω fun x Ω1 => b ρ Ω1 fun y Ω2 => match x, y with | .d (.int i), .d (.int j) => Φ i j Ω2 | _, _ => False
structure SnRg (E : En) (te : L2.St → Hp → (Int → Int → Hp → Prop) → Prop) (a : ARg) : Prop where
  go : ∀ {ρ : Rho} {Ω : Om} {Φ : Int → Int → Om → Prop}, a ρ Ω Φ → ∀ {P F H : Hp} {σ : L2.St} {Q : Int → Int → Hp → Prop}, Ok E P F H Ω → RpE E.K F σ ρ →
    (∀ {i j : Int} {Ω' : Om} {F' H' : Hp}, Φ i j Ω' → Ok E P F' H' Ω' → Same F F' → Q i j H') → te σ H Q
def JRg (X : Cx) (G : Gn) (e : Expr) (a : ARg) : Prop := ∃ te, PRg X e te ∧ SnRg (enX X G) te a
theorem jrg_1 {p : Pos} (hg : Gl X "range") (hm : X.mg "range" = none) (ha : JE X G a aa) (na : starEach [a] X.env = (false, eval a X.env) :: starEach [] X.env := by rfl) : JRg X G (.Call (.Name "range" p) [a] [] pos) (aRg1 aa) := by
  obtain ⟨t, h1, h2⟩ := ha
  refine ⟨_, prg_1 hg hm h1 na, ⟨fun {ρ Ω Φ} h {P F H σ Q} o rp k => h2.go h o rp fun {v sv Ω1 F1 H1} q o1 s1 r1 => ?_⟩⟩
  dsimp only at q
  split at q
  · exact ⟨_, dqi r1, k q o1 s1⟩
  · exact q.elim
theorem jrg_2 {p : Pos} (hg : Gl X "range") (hm : X.mg "range" = none) (ha : JE X G a aa) (hb : JE X G b ab) (na : starEach [a, b] X.env = (false, eval a X.env) :: starEach [b] X.env := by rfl) (nb : starEach [b] X.env = (false, eval b X.env) :: starEach [] X.env := by rfl) (hp : (backTo pos (starEach [b] X.env)).any (·.1) = false := by rfl) : JRg X G (.Call (.Name "range" p) [a, b] [] pos) (aRg2 aa ab) := by
  obtain ⟨t, h1, h2⟩ := ha
  obtain ⟨u, h3, h4⟩ := hb
  refine ⟨_, prg_2 hg hm h1 h3 na nb hp, ⟨fun {ρ Ω Φ} h {P F H σ Q} o rp k => h2.go h o rp fun {v sv Ω1 F1 H1} q o1 s1 r1 => h4.go q o1 (rpe_same s1 rp) fun {v2 sv2 Ω2 F2 H2} q2 o2 s2 r2 => ?_⟩⟩
  dsimp only at q2
  split at q2
  · exact ⟨_, _, dqi (r1.same s2), dqi r2, k q2 o2 (s1.trans s2)⟩
  · exact q2.elim
def aLstRg (m : Mode) (a : ARg) : AE := fun ρ Ω Φ => a ρ Ω fun i j Ω' => RgOk i j ∧ newL m (rgD i j) Ω' Φ
theorem je_listRg {ar : ARg} {p : Pos} (hm : MOk (enX X G) m) (hc : X.calm = true) (hg : Gl X "list") (hmg : X.mg "list" = none) (ha : JRg X G e ar) (na : starEach [e] X.env = (false, eval e X.env) :: starEach [] X.env := by rfl) : JE X G (.Call (.Name "list" p) [e] [] pos) (aLstRg m ar) := by
  obtain ⟨t, h1, h2⟩ := ha
  exact ⟨_, pe_listRg hc hg hmg h1 na, ⟨fun {ρ Ω Φ} h {P F H σ Q} o rp k => h2.go h o rp fun {i j Ω1 F1 H1} q o1 s1 => ⟨q.1, fun p hp => newL_ok hm o1 (dqa_rg i j) q.2 (fun q2 o2 s2 r2 => k q2 o2 (s1.trans s2) r2) hp⟩⟩⟩
/-- sum, max, min of a list of ints; all, any of bools -/
def intsOf : List PyData → Option (List Int)
  | [] => some []
  | .int i :: r => match intsOf r with | some ns => some (i :: ns) | none => none
  | _ :: _ => none
theorem intsOf_ok : ∀ {ds : List PyData} {ns : List Int}, intsOf ds = some ns → ds = ns.map PyData.int
  | [], ns, h => by cases h; rfl
  | .int i :: r, ns, h => by
    unfold intsOf at h
    cases e : intsOf r with
    | none => rw [e] at h; cases h
    | some ms => rw [e] at h; cases h; rw [intsOf_ok e]; rfl
  | .none :: r, ns, h => by cases h
  | .bool b :: r, ns, h => by cases h
  | .str b :: r, ns, h => by cases h
  | .list b :: r, ns, h => by cases h
  | .tuple b :: r, ns, h => by cases h
  | .dict b :: r, ns, h => by cases h
def fSum (x : SV) (Ω : Om) (Φ : PhiE) : Prop := ∃ ns : List Int, rdS x Ω fun ds => (match x with | .d (.tuple _) => False | _ => True) ∧ ds = ns.map PyData.int ∧ Φ (.d (.int ns.sum)) Ω
theorem rdL_of_S {x : SV} {Ω : Om} {k : List PyData → Prop} (h : rdS x Ω fun ds => (match x with | .d (.tuple _) => False | _ => True) ∧ k ds) {E : En} {P F H : Hp} {v : V} (o : Ok E P F H Ω) (r : Rp E.K F v x) :
    ∃ a vs ds, v = .ref a ∧ SqL E.K H a vs ∧ DqAll E.K F vs ds ∧ k ds := by
  obtain ⟨a, vs, ds, rfl, hs, da, h1, h2⟩ := rdS_ok h o r
  rcases hs with hs | hs
  · exact ⟨a, vs, ds, rfl, hs, da, h2⟩
  · unfold rdS at h
    split at h
    · obtain ⟨a', xs, e, hF, ha⟩ := dql r
      cases e
      exact ⟨_, xs, _, rfl, SqL.of (o.ex _ _ hF), ha, h.2⟩
    · exact h1.elim
    · obtain ⟨a', xs, e, hF, ha⟩ := r
      cases e
      exact ⟨_, xs, _, rfl, o.ex.seq hF, ha, h.2⟩
    · obtain ⟨ds', f, t, hk⟩ := h
      obtain ⟨vs', h1, h2⟩ := o.lst t
      cases r
      exact ⟨_, vs', _, rfl, SqL.of h1, h2, hk.2⟩
    · exact h.elim
theorem jc_sum (hc : X.calm = true) : JC X G (.builtin "sum") (ac1 fSum) := by
  refine ⟨_, cr_sum hc, ac1_ok fun {x Ω Φ} h {P F H v Q} o r k => ?_⟩
  obtain ⟨ns, h⟩ := h
  obtain ⟨a, vs, ds, rfl, hs, da, rfl, q⟩ := rdL_of_S h o r
  rw [dqa_ints da] at hs
  exact ⟨a, ns, rfl, hs, k q o (Same.refl F) (.int _)⟩
def fAll (x : SV) (Ω : Om) (Φ : PhiE) : Prop := ∃ bs : List Bool, rdS x Ω fun ds => (match x with | .d (.tuple _) => False | _ => True) ∧ ds = bs.map PyData.bool ∧ Φ (.d (.bool (bs.all id))) Ω
def fAny (x : SV) (Ω : Om) (Φ : PhiE) : Prop := ∃ bs : List Bool, rdS x Ω fun ds => (match x with | .d (.tuple _) => False | _ => True) ∧ ds = bs.map PyData.bool ∧ Φ (.d (.bool (bs.any id))) Ω
theorem jc_all (hc : X.calm = true) : JC X G (.builtin "all") (ac1 fAll) := by
  refine ⟨_, cr_all hc, ac1_ok fun {x Ω Φ} h {P F H v Q} o r k => ?_⟩
  obtain ⟨ns, h⟩ := h
  obtain ⟨a, vs, ds, rfl, hs, da, rfl, q⟩ := rdL_of_S h o r
  rw [dqa_bools da] at hs
  exact ⟨a, ns, rfl, hs, k q o (Same.refl F) (.bl _)⟩
theorem jc_any (hc : X.calm = true) : JC X G (.builtin "any") (ac1 fAny) := by
  refine ⟨_, cr_any hc, ac1_ok fun {x Ω Φ} h {P F H v Q} o r k => ?_⟩
  obtain ⟨ns, h⟩ := h
  obtain ⟨a, vs, ds, rfl, hs, da, rfl, q⟩ := rdL_of_S h o r
  rw [dqa_bools da] at hs
  exact ⟨a, ns, rfl, hs, k q o (Same.refl F) (.bl _)⟩
/-- sorted of ints -/
def fSorted (m : Mode) (x : SV) (Ω : Om) (Φ : PhiE) : Prop := ∃ ns : List Int, rdS x Ω fun ds => (match x with | .d (.tuple _) => False | _ => True) ∧ ds = ns.map PyData.int ∧ ∀ ms : List Int, ms.Perm ns → ms.Pairwise (· ≤ ·) → newL m (ms.map PyData.int) Ω Φ
theorem jc_sorted (hm : MOk (enX X G) m) : JC X G (.builtin "sorted") (ac1 (fSorted m)) := by
  refine ⟨_, cr_sortedI, ac1_ok fun {x Ω Φ} h {P F H v Q} o r k => ?_⟩
  obtain ⟨ns, h⟩ := h
  obtain ⟨a, vs, ds, rfl, hs, da, rfl, q⟩ := rdL_of_S h o r
  rw [dqa_ints da] at hs
  exact ⟨a, ns, rfl, hs, fun ms p h1 h2 hp => newL_ok hm o (ints_dqa ms) (q ms h1 h2) k hp⟩
/-- isinstance(x, T) for a built-in T -/
def tyD : SV → Option String
  | .d .none => some "NoneType"
  | .d (.bool _) => some "bool"
  | .d (.int _) => some "int"
  | .d (.str _) => some "str"
  | .d (.list _) => some "list"
  | .d (.tuple _) => some "tuple"
  | .d (.dict _) => some "dict"
  | _ => none
theorem tyX_of {E : En} {P F H : Hp} {Ω : Om} (o : Ok E P F H Ω) : ∀ {x : SV} {v : V} {t : String}, Rp E.K F v x → tyD x = some t → TyX E.K H v (.type t)
  | .d .none, v, t, r, e => by cases dqn r; cases e; exact .base .non
  | .d (.bool b), v, t, r, e => by cases dqb r; cases e; exact .base (.bl b)
  | .d (.int b), v, t, r, e => by cases dqi r; cases e; exact .base (.int b)
  | .d (.str b), v, t, r, e => by cases dqs r; cases e; exact .base (.str b)
  | .d (.list b), v, t, r, e => by
    obtain ⟨a, xs, rfl, hF, _⟩ := dql r
    cases e
    exact .base (.lst (o.ex _ _ hF))
  | .d (.tuple b), v, t, r, e => by
    obtain ⟨a, xs, rfl, hF, _⟩ := dqt r
    cases e
    rcases sqt_same o.ex hF with (h | ⟨ob, h⟩) | ⟨ob, its, n, h, hc, _⟩
    · exact .base (.tup h)
    · exact .fTuple h
    · exact .kTuple h hc
  | .d (.dict b), v, t, r, e => by
    cases r with
    | dct h _ => cases e; exact .base (.dK (o.ex _ _ h))
  | .l ds, v, t, r, e => by cases e
  | .r u, v, t, r, e => by cases e
def fIsi (x y : SV) (Ω : Om) (Φ : PhiE) : Prop := match y with
  | .r (.ty n) => ∃ t b, tyD x = some t ∧ L2.kitB t n = some b ∧ Φ (.d (.bool b)) Ω
  | _ => False
theorem jc_isi : JC X G (.builtin "isinstance") (ac2 fIsi) := by
  refine ⟨_, call_isi, ac2_ok fun {x y Ω Φ} h {P F H v u Q} o r1 r2 k => ?_⟩
  unfold fIsi at h
  split at h
  · obtain ⟨t, b, h1, h2, h3⟩ := h
    cases (show u = _ from r2)
    exact ⟨_, _, _, _, b, rfl, ClsV.ty _, tyX_of o r1 h1, kit_ty h2, k h3 o (Same.refl F) (.bl b)⟩
  · exact h.elim
/-- math.gcd -/
theorem jc_gcd : JC X G (.builtin "math.gcd") (ac2 (fI2 fun i j => ((Nat.gcd i.natAbs j.natAbs : Nat) : Int))) := by
  refine ⟨_, cr_gcd, ac2_ok fun {x y Ω Φ} h {P F H v u Q} o r1 r2 k => ?_⟩
  unfold fI2 at h
  split at h
  · cases dqi r1; cases dqi r2; exact ⟨_, _, rfl, k h o (Same.refl F) (.int _)⟩
  · exact h.elim
/-- repr of data -/
def fRepr (x : SV) (Ω : Om) (Φ : PhiE) : Prop := rdD x Ω fun d => d.showable = true ∧ d.hasDict = false ∧ d.depth ≤ 60 ∧ d.shown.length ≤ sizeLine ∧ Φ (.d (.str d.shown)) Ω
theorem call_reprD (hu : X.A.units + 64 < cLine) (hgd : X.A.guards = some []) : CallR X (.builtin "repr") (fun xs H Q => ∃ v d, xs = [v] ∧ Dp X.K H v d ∧ d.showable = true ∧ d.hasDict = false ∧ d.depth ≤ 60 ∧ d.shown.length ≤ sizeLine ∧ Q (.str d.shown) H) := by
  intro pins s σ H xs us Q I r h
  obtain ⟨v, d, rfl, hd, h1, h2, h3, h4, q⟩ := h
  obtain ⟨u, rfl, ru⟩ := vals1 r
  have big : ∀ {p : Addr} {as : List Addr}, Reads s.heap (.ref p) d as → u = .ref p → wpAny (model X.prog X.w) X.A (call (.builtin "repr") [u]) (EP X pins σ Q) X.xe s := fun {p as} rd e => by
    rw [e]
    exact repr_of_reads' rd h1 (PyData.noDict_hsm h2) hgd (by omega) (fun _ _ e => e) (fun h' u tk hk => ⟨.str d.shown, H, I.kept hk, ⟨_, rfl⟩, q⟩) h4
  cases d with
  | none =>
    cases hd
    cases ru
    exact PySem.P.repr_of_none ⟨.str _, H, I.tok _, ⟨_, rfl⟩, by simpa only [PyData.shown] using q⟩
  | bool b =>
    cases hd
    cases ru
    exact PySem.P.repr_of_bool ⟨.str _, H, I.tok _, ⟨_, rfl⟩, by simpa only [PyData.shown] using q⟩
  | int i =>
    cases hd
    obtain ⟨t, rfl⟩ := ru
    exact PySem.P.repr_of_int (by simpa [PyData.showable] using h1) ⟨.str _, H, I.tok _, ⟨_, rfl⟩, by simpa only [PyData.shown] using q⟩
  | str x =>
    cases hd
    obtain ⟨t, rfl⟩ := ru
    exact PySem.P.repr_of_str ⟨.str _, H, I.tok _, ⟨_, rfl⟩, by simpa only [PyData.shown] using q⟩ (by simpa only [PyData.shown] using h4)
  | list ds =>
    obtain ⟨as, rd⟩ := Dp.reads I _ v u hd ru
    cases hd with
    | lst _ _ => cases ru; exact big rd rfl
  | tuple ds =>
    obtain ⟨as, rd⟩ := Dp.reads I _ v u hd ru
    cases hd with
    | tup _ _ => cases ru; exact big rd rfl
  | dict kvs => cases hd
theorem jc_repr (hu : X.A.units + 64 < cLine) (hgd : X.A.guards = some []) : JC X G (.builtin "repr") (ac1 fRepr) := by
  refine ⟨_, call_reprD hu hgd, ac1_ok fun {x Ω Φ} h {P F H v Q} o r k => ?_⟩
  obtain ⟨d, hd, -, h1, h2, h3, h4, q⟩ := rdD_ok2 h o r
  exact ⟨v, d, rfl, hd h2, h1, h2, h3, h4, k q o (Same.refl F) (.str _)⟩
/-! ### methods of lists -/
def isLs (x : SV) (Ω : Om) : Prop := match x with
  | .d (.list _) => True
  | .r (.ref a) => ∃ c f, At Ω a c f ∧ (match c with | .lst _ => True | .lx _ => True | _ => False)
  | _ => False
theorem isLs_ok {E : En} {P F H : Hp} {Ω : Om} {x : SV} {v : V} (h : isLs x Ω) (o : Ok E P F H Ω) (r : Rp E.K F v x) : tyV E.K "list" v H := by
  unfold isLs at h
  split at h
  · obtain ⟨a, xs, rfl, hF, _⟩ := dql r
    exact Or.inl ⟨rfl, _, SqL.of (o.ex _ _ hF)⟩
  · obtain ⟨c, f, t, hc⟩ := h
    cases (show v = _ from r)
    split at hc
    · obtain ⟨vs, h1, _⟩ := o.lst t
      exact Or.inl ⟨rfl, _, SqL.of h1⟩
    · obtain ⟨vs, h1, _⟩ := o.lx t
      exact Or.inl ⟨rfl, _, SqL.of h1⟩
    · exact hc.elim
  · exact h.elim
def aMl (am : AM) (a : AE) (t : AA) : AE := fun ρ Ω Φ => a ρ Ω fun x Ω1 => isLs x Ω1 ∧ t ρ Ω1 fun xs Ω2 => am x xs Ω2 Φ
def aMl0 (am : AM) (a : AE) : AE := fun ρ Ω Φ => a ρ Ω fun x Ω1 => isLs x Ω1 ∧ am x [] Ω1 Φ
theorem je_ml {name : Str} {id : String} {am : AM} {es : List Expr} {apos cpos : Pos} (slot : Slot "list" name id) (hty : typeOf (.builtin id) = pure (.type "method_descriptor")) (hm : JM X G id am) (ha : JE X G a aa) (ht : JA X G (e :: es) ta)
    (hbase : attributeBase a name X.env (eval a X.env) = eval a X.env := by rfl)
    (hfew : ((backTo cpos (starEach (e :: es) X.env)).all (fun x => !x.1) && (backToKw cpos (keywordEach [] X.env)).all (fun x => x.1.isSome)
      && decide ((e :: es).length + ([] : List Keyword).length + (if ([] : List Keyword).isEmpty then 0 else 1) < 30)) = true := by rfl)
    (hline : (apos.endLine == cpos.line) = true := by rfl) (hs : starEach (e :: es) X.env = (false, eval e X.env) :: starEach es X.env := by rfl) (hplain : (backTo cpos (starEach es X.env)).any (·.1) = false := by rfl) :
    JE X G (.Call (.Attribute a name apos) (e :: es) [] cpos) (aMl am aa ta) := by
  obtain ⟨r, h1, h2⟩ := hm
  obtain ⟨t, h3, h4⟩ := ha
  obtain ⟨u, h5, h6⟩ := ht
  refine ⟨_, pe_bm PySem.F.plainAttrs_list slot hty h1 h3 h5 hbase hfew hline hs hplain, ⟨fun {ρ Ω Φ} h {P F H σ Q} o rp k => h4.go h o rp fun {v sv Ω1 F1 H1} q o1 s1 r1 => ⟨isLs_ok q.1 o1 r1, ?_⟩⟩⟩
  exact h6.go q.2 o1 (rpe_same s1 rp) fun q2 o2 s2 r2 => h2.go q2 o2 (r1.same s2) r2 fun q3 o3 s3 r3 => k q3 o3 ((s1.trans s2).trans s3) r3
theorem je_ml0 {name : Str} {id : String} {am : AM} {apos cpos : Pos} (slot : Slot "list" name id) (hty : typeOf (.builtin id) = pure (.type "method_descriptor")) (hm : JM X G id am) (ha : JE X G a aa)
    (hbase : attributeBase a name X.env (eval a X.env) = eval a X.env := by rfl) (hline : (apos.endLine == cpos.line) = true := by rfl) : JE X G (.Call (.Attribute a name apos) [] [] cpos) (aMl0 am aa) := by
  obtain ⟨r, h1, h2⟩ := hm
  obtain ⟨t, h3, h4⟩ := ha
  refine ⟨_, pe_bm0 PySem.F.plainAttrs_list slot hty h1 h3 hbase hline, ⟨fun {ρ Ω Φ} h {P F H σ Q} o rp k => h4.go h o rp fun {v sv Ω1 F1 H1} q o1 s1 r1 => ⟨isLs_ok q.1 o1 r1, ?_⟩⟩⟩
  exact h2.go q.2 o1 r1 .nil fun q3 o3 s3 r3 => k q3 o3 (s1.trans s3) r3
/-- xs.append(y) -/
def amAppend : AM := fun x xs Ω Φ => match x, xs with
  | .r (.ref p), [y] => ∃ c f, At Ω p c f ∧ (match c, y with
    | .lst ds, .d d => ds.length < sizeLine ∧ Φ (.d .none) (f (.lst (ds ++ [d])))
    | .lx ys, y => ys.length < sizeLine ∧ Φ (.d .none) (f (.lx (ys ++ [y])))
    | .lst ds, y => ds.length < sizeLine ∧ Φ (.d .none) (f (.lx (ds.map SV.d ++ [y])))
    | _, _ => False)
  | _, _ => False
theorem jm_append : JM X G "list.append" amAppend := by
  refine ⟨_, mt_append, ⟨fun {x xs Ω Φ} h {P F H v vs Q} o r rs k => ?_⟩⟩
  unfold amAppend at h
  split at h
  · rename_i p y
    obtain ⟨c, f, t, h⟩ := h
    cases (show v = _ from r)
    obtain ⟨u, rfl, ru⟩ := pr1 rs
    split at h
    · obtain ⟨ws, h1, h2⟩ := o.lst t
      exact ⟨p, ws, u, rfl, rfl, h1, by rw [dqa_len h2]; exact h.1, k h.2 (o.put t (dqa_app h2 (.cons ru .nil))) (Same.refl F) .non⟩
    · obtain ⟨ws, h1, h2⟩ := o.lx t
      exact ⟨p, ws, u, rfl, rfl, h1, by rw [h2.length]; exact h.1, k h.2 (o.put t (pr_app h2 (.cons ru .nil))) (Same.refl F) .non⟩
    · obtain ⟨ws, h1, h2⟩ := o.lst t
      exact ⟨p, ws, u, rfl, rfl, h1, by rw [dqa_len h2]; exact h.1, k h.2 (o.put t (pr_app (of_dqa h2) (.cons ru .nil))) (Same.refl F) .non⟩
    · exact h.elim
  · exact h.elim
/-- xs.pop(), xs.pop(i) -/
def amPop : AM := fun x xs Ω Φ => match x, xs with
  | .r (.ref p), [] => ∃ ds f, At Ω p (.lst ds) f ∧ ∃ d, ds[ds.length - 1]? = some d ∧ Φ (.d d) (f (.lst ds.dropLast))
  | .r (.ref p), [.d (.int i)] => ∃ ds f, At Ω p (.lst ds) f ∧ ∃ d, 0 ≤ i ∧ i < 2 ^ 63 ∧ ds[i.toNat]? = some d ∧ Φ (.d d) (f (.lst (ds.eraseIdx i.toNat)))
  | _, _ => False
theorem dqa_dropLast {K : Frag} {F : Hp} {vs : List V} {ds : List PyData} (h : DqAll K F vs ds) : DqAll K F vs.dropLast ds.dropLast := by
  rw [List.dropLast_eq_take, List.dropLast_eq_take, dqa_len h]
  exact dqa_take _ h
theorem jm_pop : JM X G "list.pop" amPop := by
  refine ⟨_, MtR.or mt_pop mt_popAt, ⟨fun {x xs Ω Φ} h {P F H v vs Q} o r rs k => ?_⟩⟩
  unfold amPop at h
  split at h
  · obtain ⟨ds, f, t, d, e, q⟩ := h
    cases (show v = _ from r)
    cases rs
    obtain ⟨ws, h1, h2⟩ := o.lst t
    obtain ⟨u, e2, ru⟩ := dqa_get h2 e
    rw [← dqa_len h2] at e2
    exact Or.inl ⟨_, ws, u, rfl, rfl, h1, e2, k q (o.put t (dqa_dropLast h2)) (Same.refl F) ru⟩
  · rename_i p i
    obtain ⟨ds, f, t, d, h0, h63, e, q⟩ := h
    cases (show v = _ from r)
    obtain ⟨u, rfl, ru⟩ := pr1 rs
    cases dqi ru
    obtain ⟨ws, h1, h2⟩ := o.lst t
    obtain ⟨u, e2, ru⟩ := dqa_get h2 e
    have hlt : i.toNat < ws.length := (List.getElem?_eq_some_iff.mp e2).1
    exact Or.inr ⟨_, ws, i, i.toNat, u, rfl, rfl, h1, by omega, h63, by first | exact seqIndex_of h0 (by omega) | (unfold seqIndex?; simp; omega), e2, k q (o.put t (dqa_erase _ h2)) (Same.refl F) ru⟩
  · exact h.elim
/-- xs.extend(ys) -/
def amExtend : AM := fun x xs Ω Φ => match x, xs with
  | .r (.ref p), [y] => ∃ ds f, At Ω p (.lst ds) f ∧ rdL y Ω fun es => ds.length + es.length ≤ sizeLine ∧ Φ (.d .none) (f (.lst (ds ++ es)))
  | _, _ => False
theorem jm_extend : JM X G "list.extend" amExtend := by
  refine ⟨_, mt_extend, ⟨fun {x xs Ω Φ} h {P F H v vs Q} o r rs k => ?_⟩⟩
  unfold amExtend at h
  split at h
  · obtain ⟨ds, f, t, h⟩ := h
    cases (show v = _ from r)
    obtain ⟨u, rfl, ru⟩ := pr1 rs
    obtain ⟨ws, h1, h2⟩ := o.lst t
    obtain ⟨b, us, es, rfl, h3, h4, h5, q⟩ := rdL_ok h o ru
    exact ⟨_, b, ws, us, rfl, rfl, h1, h3, by rw [dqa_len h2, dqa_len h4]; exact h5, k q (o.put t (dqa_app h2 h4)) (Same.refl F) .non⟩
  · exact h.elim
end
end Z
/-! Z5: calls of defs by contracts; what a for walks; targets; statements; comprehensions; a def by its body. -/
namespace Z
open PySem PySem.Spec PyProof.Rows L2
/-! ### contracts -/
abbrev XI := Value × Option (List (Str × SV))
abbrev XA := XI → Om → Prop
abbrev Con := List SV → Om → PhiE → XA → Prop
def RpX (K : Frag) (F H : Hp) (cls : Value) (d : Option Addr) (x : XI) : Prop := cls = x.1 ∧ match d, x.2 with
  | none, none => True
  | some a, some fs => ∃ gs, H a = some (.xd gs) ∧ Paired (fun p q => p.1 = q.1 ∧ Rp K F p.2 q.2) gs fs
  | _, _ => False
def spOf (K : Frag) (T : Con) : Sp := fun vs H Q Ex => ∃ (P F : Hp) (Ω : Om) (svs : List SV) (Φ : PhiE) (Ξ : XA), Ok ⟨⟨F, H, P⟩, K⟩ P F H Ω ∧ Paired (Rp K F) vs svs ∧ T svs Ω Φ Ξ ∧
  (∀ v sv Ω' P' F' H', Φ sv Ω' → Ok ⟨⟨F, H, P⟩, K⟩ P' F' H' Ω' → Rp K F' v sv → Q v H') ∧ (∀ x Ω' P' F' H' cls d, Ξ x Ω' → Ok ⟨⟨F, H, P⟩, K⟩ P' F' H' Ω' → RpX K F' H' cls d x → Ex cls d H')
abbrev Ari (T : Con) (n : Nat) : Prop := ∀ svs Ω Φ Ξ, T svs Ω Φ Ξ → svs.length = n
/-- no exception is wished for -/
abbrev xno : Rho → XA := fun _ _ _ => False
def XOk (X : Cx) (G : Gn) (E : L2.St → XK) (Ξ : Rho → XA) : Prop := ∀ {σ : L2.St} {ρ : Rho} {x : XI} {Ω : Om} {P F H : Hp} {cls : Value} {d : Option Addr}, Ξ ρ x Ω → Ok (enX X G) P F H Ω → RpE X.K F σ ρ → RpX X.K F H cls d x → E σ cls d H
theorem xok0 {X : Cx} {G : Gn} {E : L2.St → XK} : XOk X G E xno := fun h => h.elim
section
variable {X : Cx} {G : Gn} {e a b : Expr} {aa ab : AE} {at_ bt : AT} {ta tb : AA} {pos : Pos} {m : Mode}
variable {CX : CXT} {k : Nat} {f : Addr} {fd : FuncData} {ps ks : List Str} {T : Con} {E : L2.St → XK} {Ξ : Rho → XA} {x : Str} {p : Pos} {es : List Expr} {kws : List Keyword}
def aCall (T : Con) (Ξ : Rho → XA) (t : AA) : AE := fun ρ Ω Φ => t ρ Ω fun svs Ω' => T svs Ω' Φ (Ξ ρ)
theorem enter_sp {P F H : Hp} {Ω : Om} {vs : List V} {svs : List SV} {Φ : PhiE} {Q : VK} {σ : L2.St} {ρ : Rho} (o : Ok (enX X G) P F H Ω) (r : Paired (Rp X.K F) vs svs) (rp : RpE X.K F σ ρ) (hE : XOk X G E Ξ) (h : T svs Ω Φ (Ξ ρ))
    (k : Aft (enX X G) P F Φ Q) : spOf X.K T vs H Q (E σ) := by
  refine ⟨P, F, Ω, svs, Φ, Ξ ρ, o.enter, r, h, fun v sv Ω' P' F' H' q o' r' => k q (o.leave o') o'.f0 r', fun x Ω' P' F' H' cls d q o' r' => ?_⟩
  exact hE q (o.leave o') (rpe_same o'.f0 rp) r'
theorem je_call (F : FnG X.prog X.w X.K X.mg X.base CX k f fd ps (spOf X.K T)) (hr : Room k X.A) (hgd : X.A.guards = some []) (hg : Gl X x) (hm : X.mg x = some (.ref f)) (hk : PySem.W.keepIn X.K (.ref f) = true)
    (hb : Binds X.K fd ps []) (hx : ∀ σ, PassAt CX X σ (E σ)) (hE : XOk X G E Ξ) (ha : JA X G (e :: es) ta) (hdb : (x == ("__debug__" : Str)) = false := by decide)
    (he : starEach (e :: es) X.env = (false, eval e X.env) :: starEach es X.env := by rfl) (hpl : (backTo pos (starEach es X.env)).any (·.1) = false := by rfl) :
    JE X G (.Call (.Name x p) (e :: es) [] pos) (aCall T Ξ ta) := by
  obtain ⟨t, h1, h2⟩ := ha
  exact ⟨_, pg_call F hr hgd hg hm hk hb hx h1 hdb he hpl, ⟨fun {ρ Ω Φ} h {P F H σ Q} o rp k => h2.go h o rp fun q o1 s1 r1 => enter_sp o1 r1 (rpe_same s1 rp) hE q fun q2 o2 s2 r2 => k q2 o2 (s1.trans s2) r2⟩⟩
theorem je_call0 (F : FnG X.prog X.w X.K X.mg X.base CX k f fd ps (spOf X.K T)) (hr : Room k X.A) (hgd : X.A.guards = some []) (hg : Gl X x) (hm : X.mg x = some (.ref f)) (hk : PySem.W.keepIn X.K (.ref f) = true)
    (hb : Binds X.K fd ps []) (hx : ∀ σ, PassAt CX X σ (E σ)) (hE : XOk X G E Ξ) (hdb : (x == ("__debug__" : Str)) = false := by decide) : JE X G (.Call (.Name x p) [] [] pos) (aCall T Ξ aNil) :=
  ⟨_, pg_call0 F hr hgd hg hm hk hb hx hdb, ⟨fun {ρ Ω Φ} h {P F H σ Q} o rp k => enter_sp o .nil rp hE h k⟩⟩
/-! ### calls with keywords: π tells where each parameter's value stands among the positional ones and the keywords' -/
def gP {α : Type} (d : α) (n m : Nat) (π : List Nat) (us ws : List α) : List α := if us.length = n ∧ ws.length = m then π.map fun i => (us ++ ws).getD i d else []
def KArg (K : Frag) (fd : FuncData) (ps ks : List Str) (n : Nat) (π : List Nat) : Prop := ∀ (s : Shared) (us ws : List Value), K.In s.heap → us.length = n → ws.length = ks.length → BindsTo s fd ⟨us, ks.zip ws⟩ (ps.zip (π.map fun i => (us ++ ws).getD i .none))
theorem vals_gP {n m : Nat} {π : List Nat} {vs zs : List V} {us ws : List Value} (r : Vals vs us) (rz : Vals zs ws) : Vals (gP .non n m π vs zs) (gP .none n m π us ws) := by
  unfold gP
  rw [r.length, rz.length]
  split
  · have q := r.append rz
    induction π with
    | nil => exact .nil
    | cons i π ih =>
      refine .cons ?_ ih
      show RelV ((vs ++ zs).getD i .non) ((us ++ ws).getD i .none)
      cases e : (vs ++ zs)[i]? with
      | none =>
        rw [List.getD_eq_getElem?_getD, List.getD_eq_getElem?_getD, e, q.none_of e]
        rfl
      | some v =>
        obtain ⟨u, hu, ru⟩ := q.get e
        rw [List.getD_eq_getElem?_getD, List.getD_eq_getElem?_getD, e, hu]
        exact ru
  · exact .nil
theorem rp_gP {K : Frag} {F : Hp} {n m : Nat} {π : List Nat} {vs zs : List V} {us ws : List SV} (r : Paired (Rp K F) vs us) (rz : Paired (Rp K F) zs ws) : Paired (Rp K F) (gP .non n m π vs zs) (gP (.d .none) n m π us ws) := by
  unfold gP
  rw [r.length, rz.length]
  split
  · have q := pr_app r rz
    induction π with
    | nil => exact .nil
    | cons i π ih =>
      refine .cons ?_ ih
      show Rp K F ((vs ++ zs).getD i .non) ((us ++ ws).getD i (.d .none))
      cases e : (us ++ ws)[i]? with
      | none =>
        have e2 : (vs ++ zs)[i]? = none := by
          have hl := q.length
          have := List.getElem?_eq_none_iff.mp e
          exact List.getElem?_eq_none_iff.mpr (by omega)
        rw [List.getD_eq_getElem?_getD, List.getD_eq_getElem?_getD, e, e2]
        exact Dq.non
      | some v =>
        obtain ⟨u, hu, ru⟩ := pr_get q e
        rw [List.getD_eq_getElem?_getD, List.getD_eq_getElem?_getD, e, hu]
        exact ru
  · exact .nil
theorem fin_callK {sp : Sp} {n : Nat} {π : List Nat} {pins : List (Addr × Obj)} {σ : L2.St} {H : Hp} {s : Shared} {Q : VK} {us ws : List Value} {vs zs : List V} (F : FnG X.prog X.w X.K X.mg X.base CX k f fd ps sp) (hr : Room k X.A) (hgd : X.A.guards = some [])
    (hb : KArg X.K fd ps ks n π) (hπ : 0 < ps.length) (hx : PassAt CX X σ (E σ)) (I : Inv X pins σ H s) (r : Vals vs us) (rz : Vals zs ws) (h : sp (gP .non n ks.length π vs zs) H Q (E σ)) :
    wpAny (model X.prog X.w) X.A (PySem.call (.ref f) us (ks.zip ws)) (EP X pins σ Q) X.xe s := by
  refine wp_of_code (runG (us := gP .none n ks.length π us ws) F hr hgd hx I (fun hl => ?_) (vals_gP r rz) h)
  by_cases hc : us.length = n ∧ ws.length = ks.length
  · have e : gP Value.none n ks.length π us ws = π.map fun i => (us ++ ws).getD i .none := by unfold gP; rw [if_pos hc]
    rw [e]
    exact hb s us ws I.kIn hc.1 hc.2
  · have e : gP Value.none n ks.length π us ws = [] := by unfold gP; rw [if_neg hc]
    rw [e] at hl
    exact absurd hl (by simp; omega)
theorem pg_callK {sp : Sp} {t tk : TA} {n : Nat} {π : List Nat} (F : FnG X.prog X.w X.K X.mg X.base CX k f fd ps sp) (hr : Room k X.A) (hgd : X.A.guards = some []) (hg : Gl X x) (hm : X.mg x = some (.ref f)) (hk : PySem.W.keepIn X.K (.ref f) = true)
    (hb : KArg X.K fd ps ks n π) (hπ : 0 < ps.length) (hx : ∀ σ, PassAt CX X σ (E σ)) (ha : PA X (e :: es) t) (hkw : PK X kws tk)
    (hall : (backToKw pos (keywordEach kws X.env)).all (·.1.isSome) = true) (hks : (backToKw pos (keywordEach kws X.env)).filterMap (·.1) = ks) (hdb : (x == ("__debug__" : Str)) = false)
    (he : starEach (e :: es) X.env = (false, eval e X.env) :: starEach es X.env)
    (hpl : ((backTo pos (starEach (e :: es) X.env)).any (·.1) || (backToKw pos (keywordEach kws X.env)).any (·.1.isNone)) = false) : PE X (.Call (.Name x p) (e :: es) kws pos) (tCallGK sp (gP .non n ks.length π) E t tk) := by
  refine ⟨fun pins s σ H Q I h => wpAny_Call_Name_kw (ld_glob I hg hm (PySem.W.callWith_KW (h₀ := X.base) I.ok.mod.kin hk hall ?_ hpl he) hdb)⟩
  refine thn (ha.run pos pins s σ H _ I h) fun us s1 ⟨vs, H1, I1, r, q⟩ => thn (hkw.run pos pins s1 σ H1 _ I1 q) fun ws s2 ⟨zs, H2, I2, rz, q2⟩ => ⟨I2.kIn, ?_⟩
  rw [hks]
  exact fin_callK F hr hgd hb hπ (hx σ) I2 r rz q2
theorem pg_callK0 {sp : Sp} {tk : TA} {n : Nat} {π : List Nat} (F : FnG X.prog X.w X.K X.mg X.base CX k f fd ps sp) (hr : Room k X.A) (hgd : X.A.guards = some []) (hg : Gl X x) (hm : X.mg x = some (.ref f)) (hk : PySem.W.keepIn X.K (.ref f) = true)
    (hb : KArg X.K fd ps ks n π) (hπ : 0 < ps.length) (hx : ∀ σ, PassAt CX X σ (E σ)) (hkw : PK X kws tk)
    (hall : (backToKw pos (keywordEach kws X.env)).all (·.1.isSome) = true) (hks : (backToKw pos (keywordEach kws X.env)).filterMap (·.1) = ks) (hdb : (x == ("__debug__" : Str)) = false)
    (hpl : ((backTo pos (starEach [] X.env)).any (·.1) || (backToKw pos (keywordEach kws X.env)).any (·.1.isNone)) = false) : PE X (.Call (.Name x p) [] kws pos) (tCallGK sp (gP .non n ks.length π) E tNil tk) := by
  refine ⟨fun pins s σ H Q I h => wpAny_Call_Name_kw (ld_glob I hg hm (PySem.W.callWith_KW0 (h₀ := X.base) I.ok.mod.kin hk hall ?_ hpl) hdb)⟩
  refine thn (hkw.run pos pins s σ H _ I h) fun ws s2 ⟨zs, H2, I2, rz, q2⟩ => ⟨I2.kIn, ?_⟩
  rw [hks]
  exact fin_callK (us := []) F hr hgd hb hπ (hx σ) I2 .nil rz q2
def aCallK (T : Con) (Ξ : Rho → XA) (n m : Nat) (π : List Nat) (t tk : AA) : AE := fun ρ Ω Φ => t ρ Ω fun xs Ω1 => tk ρ Ω1 fun zs Ω2 => T (gP (.d .none) n m π xs zs) Ω2 Φ (Ξ ρ)
theorem je_callK0 {n : Nat} {π : List Nat} (F : FnG X.prog X.w X.K X.mg X.base CX k f fd ps (spOf X.K T)) (hr : Room k X.A) (hgd : X.A.guards = some []) (hg : Gl X x) (hm : X.mg x = some (.ref f)) (hk : PySem.W.keepIn X.K (.ref f) = true)
    (hb : KArg X.K fd ps ks n π) (hπ : 0 < ps.length) (hx : ∀ σ, PassAt CX X σ (E σ)) (hE : XOk X G E Ξ) (hkw : JK X G kws tb)
    (hall : (backToKw pos (keywordEach kws X.env)).all (·.1.isSome) = true := by rfl) (hks : (backToKw pos (keywordEach kws X.env)).filterMap (·.1) = ks := by rfl) (hdb : (x == ("__debug__" : Str)) = false := by decide)
    (hpl : ((backTo pos (starEach [] X.env)).any (·.1) || (backToKw pos (keywordEach kws X.env)).any (·.1.isNone)) = false := by rfl) :
    JE X G (.Call (.Name x p) [] kws pos) (aCallK T Ξ n ks.length π aNil tb) := by
  obtain ⟨u, h3, h4⟩ := hkw
  exact ⟨_, pg_callK0 F hr hgd hg hm hk hb hπ hx h3 hall hks hdb hpl, ⟨fun {ρ Ω Φ} h {P F H σ Q} o rp k => h4.go h o rp fun q o1 s1 r1 => enter_sp o1 (rp_gP .nil r1) (rpe_same s1 rp) hE q fun q2 o2 s2 r2 => k q2 o2 (s1.trans s2) r2⟩⟩
theorem je_callK {n : Nat} {π : List Nat} (F : FnG X.prog X.w X.K X.mg X.base CX k f fd ps (spOf X.K T)) (hr : Room k X.A) (hgd : X.A.guards = some []) (hg : Gl X x) (hm : X.mg x = some (.ref f)) (hk : PySem.W.keepIn X.K (.ref f) = true)
    (hb : KArg X.K fd ps ks n π) (hπ : 0 < ps.length) (hx : ∀ σ, PassAt CX X σ (E σ)) (hE : XOk X G E Ξ) (ha : JA X G (e :: es) ta) (hkw : JK X G kws tb)
    (hall : (backToKw pos (keywordEach kws X.env)).all (·.1.isSome) = true := by rfl) (hks : (backToKw pos (keywordEach kws X.env)).filterMap (·.1) = ks := by rfl) (hdb : (x == ("__debug__" : Str)) = false := by decide)
    (he : starEach (e :: es) X.env = (false, eval e X.env) :: starEach es X.env := by rfl)
    (hpl : ((backTo pos (starEach (e :: es) X.env)).any (·.1) || (backToKw pos (keywordEach kws X.env)).any (·.1.isNone)) = false := by rfl) :
    JE X G (.Call (.Name x p) (e :: es) kws pos) (aCallK T Ξ n ks.length π ta tb) := by
  obtain ⟨t, h1, h2⟩ := ha
  obtain ⟨u, h3, h4⟩ := hkw
  exact ⟨_, pg_callK F hr hgd hg hm hk hb hπ hx h1 h3 hall hks hdb he hpl, ⟨fun {ρ Ω Φ} h {P F H σ Q} o rp k => h2.go h o rp fun q o1 s1 r1 => h4.go q o1 (rpe_same s1 rp) fun q2 o2 s2 r2 => enter_sp o2 (rp_gP (rps_same s2 r1) r2) (rpe_same (s1.trans s2) rp) hE q2 fun q3 o3 s3 r3 => k q3 o3 ((s1.trans s2).trans s3) r3⟩⟩
end
end Z
/-! Z6: what a for walks; targets; statements; a def by its body. -/
namespace Z
open PySem PySem.Spec PyProof.Rows L2
/-! ### targets -/
abbrev AG := SV → Rho → (Rho → Prop) → Prop
abbrev AGs := List SV → Rho → (Rho → Prop) → Prop
structure SnG (E : En) (g : TG) (ag : AG) : Prop where
  go : ∀ {x : SV} {ρ : Rho} {k : Rho → Prop}, ag x ρ k → ∀ {P F H : Hp} {Ω : Om} {v : V} {σ : L2.St} {Q : L2.St → Hp → Prop}, Ok E P F H Ω → RpE E.K F σ ρ → Rp E.K F v x → (∀ {σ' ρ'}, k ρ' → RpE E.K F σ' ρ' → Q σ' H) → g v σ H Q
structure SnGs (E : En) (g : TGs) (ag : AGs) : Prop where
  go : ∀ {xs : List SV} {ρ : Rho} {k : Rho → Prop}, ag xs ρ k → ∀ {P F H : Hp} {Ω : Om} {vs : List V} {σ : L2.St} {Q : L2.St → Hp → Prop}, Ok E P F H Ω → RpE E.K F σ ρ → Paired (Rp E.K F) vs xs → (∀ {σ' ρ'}, k ρ' → RpE E.K F σ' ρ' → Q σ' H) → g vs σ H Q
def JG (X : Cx) (G : Gn) (tg : Expr) (ag : AG) : Prop := ∃ g, PG X tg g ∧ SnG (enX X G) g ag
def JGs (X : Cx) (G : Gn) (tg : List Expr) (ag : AGs) : Prop := ∃ g, PGs X tg g ∧ SnGs (enX X G) g ag
def gN (i : Nat) : AG := fun x ρ k => k (ρ.set i (some x))
def gT (n : Nat) (gs : AGs) : AG := fun x ρ k => match x with
  | .d (.tuple ds) => ds.length = n ∧ gs (ds.map SV.d) ρ k
  | _ => False
def gs0 : AGs := fun xs ρ k => match xs with
  | [] => k ρ
  | _ => False
def gs1 (g : AG) (gs : AGs) : AGs := fun xs ρ k => match xs with
  | x :: r => g x ρ fun ρ' => gs r ρ' k
  | _ => False
/-! ### statements -/
structure AEnds where
  nx : Rho → Om → Prop
  rt : PhiE
  bk : Rho → Om → Prop := fun _ _ => False
  ct : Rho → Om → Prop := fun _ _ => False
abbrev AS := AEnds → Rho → Om → Prop
structure EndsOk (E : En) (P Fl : Hp) (D : AEnds) (D' : Ends) : Prop where
  nx : ∀ {ρ : Rho} {Ω : Om} {F H : Hp} {σ : L2.St}, D.nx ρ Ω → Ok E P F H Ω → Same Fl F → RpE E.K F σ ρ → D'.nx σ H
  rt : ∀ {x : SV} {Ω : Om} {F H : Hp} {v : V}, D.rt x Ω → Ok E P F H Ω → Same Fl F → Rp E.K F v x → D'.rt v H
  bk : ∀ {ρ : Rho} {Ω : Om} {F H : Hp} {σ : L2.St}, D.bk ρ Ω → Ok E P F H Ω → Same Fl F → RpE E.K F σ ρ → D'.bk σ H
  ct : ∀ {ρ : Rho} {Ω : Om} {F H : Hp} {σ : L2.St}, D.ct ρ Ω → Ok E P F H Ω → Same Fl F → RpE E.K F σ ρ → D'.ct σ H
theorem EndsOk.up {E : En} {P Fl Fm : Hp} {D : AEnds} {D' : Ends} (k : EndsOk E P Fl D D') (s : Same Fl Fm) : EndsOk E P Fm D D' :=
  ⟨fun q o z r => k.nx q o (s.trans z) r, fun q o z r => k.rt q o (s.trans z) r, fun q o z r => k.bk q o (s.trans z) r, fun q o z r => k.ct q o (s.trans z) r⟩
structure SnS (E : En) (ts : TS) (a : AS) : Prop where
  go : ∀ {D : AEnds} {ρ : Rho} {Ω : Om}, a D ρ Ω → ∀ {P F H : Hp} {σ : L2.St} {D' : Ends}, EndsOk E P F D D' → Ok E P F H Ω → RpE E.K F σ ρ → ts D' σ H
def JS (X : Cx) (G : Gn) (st : Stmt) (a : AS) : Prop := ∃ t, PS X st t ∧ SnS (enX X G) t a
def JSs (X : Cx) (G : Gn) (st : List Stmt) (a : AS) : Prop := ∃ t, PSs X st t ∧ SnS (enX X G) t a
/-! ### what is walked: the items, and what is to stand meanwhile -/
structure ItOk (E : En) (F0 : Hp) (J : It) (xs : List SV) (Kp : Om → Prop) : Prop where
  go : ∀ {i : Nat} {P F H : Hp} {Ω : Om}, Same F0 F → Ok E P F H Ω → Kp Ω → i < xs.length → J.go i H
  yl : ∀ {i : Nat} {P F H : Hp} {Ω : Om} {x : V} {H' : Hp} {y : SV}, Same F0 F → Ok E P F H Ω → Kp Ω → J.yld i H x H' → xs[i]? = some y → ∃ F', Ok E P F' H' Ω ∧ Same F F' ∧ Rp E.K F' x y
  st : ∀ {i : Nat} {P F H : Hp} {Ω : Om}, Same F0 F → Ok E P F H Ω → Kp Ω → xs.length ≤ i → J.stop i H
abbrev PhiI := List SV → (Om → Prop) → Om → Prop
abbrev AI := Rho → Om → PhiI → Prop
structure SnI (E : En) (wi : TI) (ai : AI) : Prop where
  go : ∀ {ρ : Rho} {Ω : Om} {Φ : PhiI}, ai ρ Ω Φ → ∀ {P F H : Hp} {σ : L2.St} {R : It → Hp → Prop}, Ok E P F H Ω → RpE E.K F σ ρ →
    (∀ {J : It} {xs : List SV} {Kp : Om → Prop} {Ω' : Om} {F' H' : Hp}, Φ xs Kp Ω' → Ok E P F' H' Ω' → Same F F' → ItOk E F' J xs Kp → R J H') → wi σ H R
def JI (X : Cx) (G : Gn) (tg iter : Expr) (ai : AI) : Prop := ∃ wi, PI X tg iter wi ∧ SnI (enX X G) wi ai
section
variable {X : Cx} {G : Gn} {e a b tg : Expr} {aa ab : AE} {at_ bt : AT} {ta tb : AA} {pos : Pos} {m : Mode} {g : AG} {gs : AGs} {s t : AS} {ai : AI}
theorem jg_name {i : Nat} {x : Str} (hN : X.N.Nodup) (hi : X.N[i]? = some x) (hx : Loc X.env.scope x) (hf : X.fn x = true ∨ X.env.scope.names.lookup x = some .local := by first | exact .inl rfl | exact .inr rfl | assumption) : JG X G (.Name x pos) (gN i) :=
  ⟨_, pg_name hN hi hx hf, ⟨fun {x ρ k} h {P F H Ω v σ Q} o rp r q => q h (pr_set (R := RpS X.K F) (y := some x) ⟨_, rfl, r⟩ i rp)⟩⟩
theorem jgs0 : JGs X G [] gs0 := by
  refine ⟨_, pgs_nil, ⟨fun {xs ρ k} h {P F H Ω vs σ Q} o rp r q => ?_⟩⟩
  unfold gs0 at h
  split at h
  · cases r
    exact ⟨rfl, q h rp⟩
  · exact h.elim
theorem jgs1 {es : List Expr} (h1 : JG X G e g) (h2 : JGs X G es gs) (hs : (assignEach (e :: es) X.env).map (·.2) = assign e X.env :: (assignEach es X.env).map (·.2) := by rfl) : JGs X G (e :: es) (gs1 g gs) := by
  obtain ⟨g', p1, q1⟩ := h1
  obtain ⟨u, p2, q2⟩ := h2
  refine ⟨_, pgs_cons p1 p2 hs, ⟨fun {xs ρ k} h {P F H Ω vs σ Q} o rp r q => ?_⟩⟩
  unfold gs1 at h
  split at h
  · cases r with
    | cons r1 r2 => exact ⟨_, _, rfl, q1.go h o rp r1 fun h' rp' => q2.go h' o rp' r2 q⟩
  · exact h.elim
theorem jg_tup {es : List Expr} {n k' : Nat} (hc : X.calm = true) (h : JGs X G es gs) (hn : (assignEach es X.env).length = n := by rfl) (hst : (assignEach es X.env).findIdx? (·.1) = none := by rfl) : JG X G (.Tuple es k' pos) (gT n gs) := by
  obtain ⟨u, p, q'⟩ := h
  refine ⟨_, pg_tup hc p hn hst, ⟨fun {x ρ k} h {P F H Ω v σ Q} o rp r q => ?_⟩⟩
  unfold gT at h
  split at h
  · obtain ⟨p, vs, rfl, hF, da⟩ := dqt r
    exact ⟨p, vs, rfl, sqt_same o.ex hF, by rw [dqa_len da]; exact h.1, q'.go h.2 o rp (of_dqa da) q⟩
  · exact h.elim
/-! ### what is walked -/
abbrev kpT : Om → Prop := fun _ => True
def kpAt (p : Addr) (c : OC) : Om → Prop := fun Ω => ∃ f, At Ω p c f
theorem itl_ok {E : En} {F0 : Hp} {p : Addr} {xs : List SV} {Kp : Om → Prop}
    (h : ∀ {P F H : Hp} {Ω : Om}, Same F0 F → Ok E P F H Ω → Kp Ω → ∃ vs, SqL E.K H p vs ∧ Paired (Rp E.K F) vs xs) : ItOk E F0 (Itl E.K p) xs Kp := by
  refine ⟨fun s o k hi => ?_, fun s o k y e => ?_, fun s o k hi => ?_⟩
  · obtain ⟨vs, h1, h2⟩ := h s o k
    obtain ⟨v, hv, _⟩ := pr_get h2 (List.getElem?_eq_getElem hi)
    exact ⟨vs, v, h1, hv⟩
  · obtain ⟨vs, h1, h2⟩ := h s o k
    obtain ⟨rfl, y2⟩ := y
    obtain ⟨v, hv, r⟩ := pr_get h2 e
    rw [y2 vs h1] at hv
    cases hv
    exact ⟨_, o, Same.refl _, r⟩
  · obtain ⟨vs, h1, h2⟩ := h s o k
    exact ⟨vs, h1, by rw [h2.length]; exact hi⟩
theorem itt_ok {E : En} {F0 : Hp} {p : Addr} {xs : List SV} {Kp : Om → Prop}
    (h : ∀ {P F H : Hp} {Ω : Om}, Same F0 F → Ok E P F H Ω → Kp Ω → ∃ vs, SqT E.K H p vs ∧ Paired (Rp E.K F) vs xs) : ItOk E F0 (Itt E.K p) xs Kp := by
  refine ⟨fun s o k hi => ?_, fun s o k y e => ?_, fun s o k hi => ?_⟩
  · obtain ⟨vs, h1, h2⟩ := h s o k
    obtain ⟨v, hv, _⟩ := pr_get h2 (List.getElem?_eq_getElem hi)
    exact ⟨vs, v, h1, hv⟩
  · obtain ⟨vs, h1, h2⟩ := h s o k
    obtain ⟨rfl, y2⟩ := y
    obtain ⟨v, hv, r⟩ := pr_get h2 e
    rw [y2 vs h1] at hv
    cases hv
    exact ⟨_, o, Same.refl _, r⟩
  · obtain ⟨vs, h1, h2⟩ := h s o k
    exact ⟨vs, h1, by rw [h2.length]; exact hi⟩
def seqI (x : SV) (Ω : Om) (Φ : PhiI) : Prop := match x with
  | .d (.list ds) => Φ (ds.map SV.d) kpT Ω
  | .d (.tuple ds) => Φ (ds.map SV.d) kpT Ω
  | .d (.str z) => Φ (z.cps.toList.map fun c => SV.d (.str ⟨#[c]⟩)) kpT Ω
  | .l ds => Φ (ds.map SV.d) kpT Ω
  | .r (.ref p) => ∃ c f, At Ω p c f ∧ (match c with
    | .lst ds => Φ (ds.map SV.d) (kpAt p (.lst ds)) Ω
    | .lx xs => Φ xs (kpAt p (.lx xs)) Ω
    | _ => False)
  | _ => False
def aIt (a : AE) : AI := fun ρ Ω Φ => a ρ Ω fun x Ω' => seqI x Ω' Φ
end
section
variable {X : Cx} {G : Gn} {e a b tg : Expr} {aa ab : AE} {at_ bt : AT} {ta tb : AA} {pos : Pos} {m : Mode} {g : AG} {gs : AGs} {s t : AS} {ai : AI}
/-- for x in e: e's reading is made once for each kind of thing walked -/
def iSeq (K : Frag) (tl : TE) : TI := fun σ H R => tl σ H fun x H1 => (∃ a, x = .ref a ∧ (∃ xs, SqL K H1 a xs) ∧ R (Itl K a) H1) ∨ (∃ a, x = .ref a ∧ (∃ xs, SqT K H1 a xs) ∧ R (Itt K a) H1) ∨ ∃ z, x = .str z ∧ R (Its z) H1
theorem pi_seq {l : Expr} {tl : TE} (hl : PE X l tl) : PI X tg l (iSeq X.K tl) := by
  refine ⟨fun pins s σ H R I h => thn (hl.run pins s σ H _ I h) fun v s1 ⟨x, H1, I1, r1, q⟩ => ?_⟩
  have fp : ∀ b ∈ [s1.heap.objs.size], FpOk X pins H1 b := fun b hb => by
    rw [List.mem_singleton.mp hb]
    exact I1.fpOk (Nat.le_refl _) (I1.hok.fresh (Nat.le_refl _))
  have kp : ∀ (ob : Obj), Inv X pins σ H1 { s1 with heap := s1.heap.push ob } := fun ob => I1.kept (t' := s1.toks) fun _ _ z => Heap.get?_push_of_some _ z
  rcases q with ⟨a, rfl, ⟨xs, hx⟩, q⟩ | ⟨a, rfl, ⟨xs, hx⟩, q⟩ | ⟨z, rfl, q⟩
  · cases r1
    obtain ⟨its, rv, p, hz⟩ := I1.list hx
    exact wpAny_pyIter_list p.isList ⟨_, [_], _, _, H1, rfl, kp _, turn_list a _, ⟨_, Heap.get?_push_size _ rfl, rfl, rfl⟩, fp, q⟩
  · cases r1
    obtain ⟨its, rv, p, hz⟩ := I1.tuple hx
    exact wpAny_pyIter_tuple (items := its.toArray) p ⟨_, [_], _, _, H1, rfl, kp _, turn_tuple a _, ⟨_, Heap.get?_push_size _ rfl, rfl, rfl⟩, fp, q⟩
  · obtain ⟨t, rfl⟩ := r1
    by_cases ha : z.cps.all (· < 128) = true
    · exact wpAny_pyIter_ascii ha (pi_one (tk := s1.toks) I1 _ (turn_str _ z t "str_ascii_iterator" (.inl rfl)) ⟨_, Heap.get?_push_size _ rfl, rfl, rfl⟩ q)
    · exact wpAny_pyIter_wide (by simpa using ha) (pi_one (tk := s1.toks) I1 _ (turn_str _ z t "str_iterator" (.inr rfl)) ⟨_, Heap.get?_push_size _ rfl, rfl, rfl⟩ q)
theorem its_ok {E : En} {F0 : Hp} {z : Str} : ItOk E F0 (Its z) (z.cps.toList.map fun c => SV.d (.str ⟨#[c]⟩)) kpT := by
  have hl : (z.cps.toList.map fun c => SV.d (.str ⟨#[c]⟩)).length = z.cps.size := by simp
  refine ⟨fun s o k hi => by rw [hl] at hi; exact hi, fun {i P F H Ω x H' y} s o k yy e => ?_, fun s o k hi => by rw [hl] at hi; exact hi⟩
  obtain ⟨rfl, c, hc, rfl⟩ := yy
  rw [List.getElem?_map, Array.getElem?_toList, hc] at e
  cases e
  exact ⟨F, o, Same.refl F, .str _⟩
theorem ji_of (ha : JE X G e aa) : JI X G tg e (aIt aa) := by
  obtain ⟨t, h1, h2⟩ := ha
  refine ⟨_, pi_seq h1, ⟨fun {ρ Ω Φ} h {P F H σ R} o rp k => h2.go h o rp fun {v sv Ω1 F1 H1} q o1 s1 r1 => ?_⟩⟩
  have q : seqI sv Ω1 Φ := q
  unfold seqI at q
  split at q
  · obtain ⟨p, vs, rfl, hF, da⟩ := dql r1
    exact Or.inl ⟨p, rfl, ⟨vs, SqL.of (o1.ex _ _ hF)⟩, k q o1 s1 (itl_ok fun s o _ => ⟨vs, SqL.of (o.ex _ _ (s _ _ hF)), of_dqa (dqa_same s _ _ da)⟩)⟩
  · obtain ⟨p, vs, rfl, hF, da⟩ := dqt r1
    exact Or.inr (Or.inl ⟨p, rfl, ⟨vs, sqt_same o1.ex hF⟩, k q o1 s1 (itt_ok fun s o _ => ⟨vs, sqt_same o.ex (sqt_same s hF), of_dqa (dqa_same s _ _ da)⟩)⟩)
  · cases dqs r1
    exact Or.inr (Or.inr ⟨_, rfl, k q o1 s1 its_ok⟩)
  · obtain ⟨p, vs, rfl, hF, da⟩ := r1
    exact Or.inl ⟨p, rfl, ⟨vs, o1.ex.seq hF⟩, k q o1 s1 (itl_ok fun s o _ => ⟨vs, o.ex.seq (s.seq hF), of_dqa (dqa_same s _ _ da)⟩)⟩
  · obtain ⟨c, f, t, q⟩ := q
    cases (show v = _ from r1)
    split at q
    · obtain ⟨vs, h3, h4⟩ := o1.lst t
      refine Or.inl ⟨_, rfl, ⟨vs, SqL.of h3⟩, k q o1 s1 (itl_ok fun s o kk => ?_)⟩
      obtain ⟨f', t'⟩ := kk
      obtain ⟨ws, h5, h6⟩ := o.lst t'
      exact ⟨ws, SqL.of h5, of_dqa h6⟩
    · obtain ⟨vs, h3, h4⟩ := o1.lx t
      refine Or.inl ⟨_, rfl, ⟨vs, SqL.of h3⟩, k q o1 s1 (itl_ok fun s o kk => ?_)⟩
      obtain ⟨f', t'⟩ := kk
      obtain ⟨ws, h5, h6⟩ := o.lx t'
      exact ⟨ws, SqL.of h5, h6⟩
    · exact q.elim
  · exact q.elim
/-- range(n), range(a, b) -/
def rgS (lo : Int) (n : Nat) : List SV := (List.range n).map fun i => SV.d (.int (lo + (i : Nat)))
theorem rgS_get {lo : Int} {n i : Nat} {x : SV} (h : (rgS lo n)[i]? = some x) : x = .d (.int (lo + (i : Nat))) ∧ i < n := by
  unfold rgS at h
  rw [List.getElem?_map] at h
  cases e : (List.range n)[i]? with
  | none => rw [e] at h; cases h
  | some j =>
    rw [e] at h
    obtain ⟨h1, h2⟩ := List.getElem?_eq_some_iff.mp e
    rw [List.getElem_range] at h2
    rw [List.length_range] at h1
    subst h2
    cases h
    exact ⟨rfl, h1⟩
theorem rgS_len {lo : Int} {n : Nat} : (rgS lo n).length = n := by unfold rgS; rw [List.length_map, List.length_range]
theorem itr_ok {E : En} {F0 : Hp} {lo : Int} {n : Nat} : ItOk E F0 (Itr lo n) (rgS lo n) kpT := by
  refine ⟨fun s o k hi => by rw [rgS_len] at hi; exact hi, fun {i P F H Ω x H' y} s o k yy e => ?_, fun s o k hi => by rw [rgS_len] at hi; exact hi⟩
  obtain ⟨rfl, rfl⟩ := yy
  obtain ⟨rfl, _⟩ := rgS_get e
  exact ⟨F, o, Same.refl F, .int _⟩
def bd62 (i : Int) : Prop := -(2 ^ 62) ≤ i ∧ i < 2 ^ 62
def aRng1 (t : AA) : AI := fun ρ Ω Φ => t ρ Ω fun xs Ω' => match xs with
  | [.d (.int j)] => bd62 j ∧ Φ (rgS 0 j.toNat) kpT Ω'
  | _ => False
def aRng2 (t : AA) : AI := fun ρ Ω Φ => t ρ Ω fun xs Ω' => match xs with
  | [.d (.int i), .d (.int j)] => bd62 i ∧ bd62 j ∧ Φ (rgS i (j - i).toNat) kpT Ω'
  | _ => False
theorem ji_range1 {p : Pos} (hg : Gl X "range") (hm : X.mg "range" = none) (ha : JA X G [a] ta) (hs : starEach [a] X.env = [(false, eval a X.env)] := by rfl) : JI X G tg (.Call (.Name "range" p) [a] [] pos) (aRng1 ta) := by
  obtain ⟨t, h1, h2⟩ := ha
  refine ⟨_, pi_range1 hg hm h1 hs, ⟨fun {ρ Ω Φ} h {P F H σ R} o rp k => h2.go h o rp fun {vs svs Ω1 F1 H1} q o1 s1 r1 => ?_⟩⟩
  split at q
  · obtain ⟨v, rfl, r⟩ := pr1 r1
    cases dqi r
    exact ⟨_, rfl, q.1.1, q.1.2, k q.2 o1 s1 itr_ok⟩
  · exact q.elim
theorem ji_range2 {p : Pos} (hg : Gl X "range") (hm : X.mg "range" = none) (ha : JA X G [a, b] ta) (hs : starEach [a, b] X.env = [(false, eval a X.env), (false, eval b X.env)] := by rfl) (hs2 : starEach [b] X.env = [(false, eval b X.env)] := by rfl) :
    JI X G tg (.Call (.Name "range" p) [a, b] [] pos) (aRng2 ta) := by
  obtain ⟨t, h1, h2⟩ := ha
  refine ⟨_, pi_range2 hg hm h1 hs hs2, ⟨fun {ρ Ω Φ} h {P F H σ R} o rp k => h2.go h o rp fun {vs svs Ω1 F1 H1} q o1 s1 r1 => ?_⟩⟩
  split at q
  · obtain ⟨v, u, rfl, r, r'⟩ := pr2 r1
    cases dqi r
    cases dqi r'
    exact ⟨_, _, rfl, ⟨q.1.1, q.1.2, q.2.1.1, q.2.1.2⟩, k q.2.2 o1 s1 itr_ok⟩
  · exact q.elim
/-! ### statements -/
variable {st : Stmt} {sts rest : List Stmt}
def aNx : AS := fun D ρ Ω => D.nx ρ Ω
def aSeq (s t : AS) : AS := fun D ρ Ω => s { D with nx := t D } ρ Ω
theorem jss_nil : JSs X G [] aNx := ⟨_, pss_nil, ⟨fun {D ρ Ω} h {P F H σ D'} k o rp => k.nx h o (Same.refl F) rp⟩⟩
theorem seq_ok {E : En} {ts tu : TS} {s t : AS} (h1 : SnS E ts s) (h2 : SnS E tu t) : SnS E (tSeq ts tu) (aSeq s t) :=
  ⟨fun {D ρ Ω} h {P F H σ D'} k o rp => h1.go h (D' := { D' with nx := tu D' }) ⟨fun q o z rp => h2.go q (k.up z) o rp, k.rt, k.bk, k.ct⟩ o rp⟩
theorem jss_cons (h1 : JS X G st s) (h2 : JSs X G rest t) : JSs X G (st :: rest) (aSeq s t) := by
  obtain ⟨_, p1, q1⟩ := h1
  obtain ⟨_, p2, q2⟩ := h2
  exact ⟨_, pss_cons p1 p2, seq_ok q1 q2⟩
theorem jss_one (h1 : JS X G st s) : JSs X G [st] s := by
  obtain ⟨_, p1, q1⟩ := h1
  exact ⟨_, pss_one p1, q1⟩
theorem js_pass : JS X G (.Pass pos) aNx := ⟨_, ps_pass, ⟨fun {D ρ Ω} h {P F H σ D'} k o rp => k.nx h o (Same.refl F) rp⟩⟩
def aBrk : AS := fun D ρ Ω => D.bk ρ Ω
def aCnt : AS := fun D ρ Ω => D.ct ρ Ω
theorem js_break : JS X G (.Break pos) aBrk := ⟨_, ps_break, ⟨fun {D ρ Ω} h {P F H σ D'} k o rp => k.bk h o (Same.refl F) rp⟩⟩
theorem js_cont : JS X G (.Continue pos) aCnt := ⟨_, ps_continue, ⟨fun {D ρ Ω} h {P F H σ D'} k o rp => k.ct h o (Same.refl F) rp⟩⟩
def aAsg (a : AE) (g : AG) : AS := fun D ρ Ω => a ρ Ω fun x Ω' => g x ρ fun ρ' => D.nx ρ' Ω'
theorem asg_ok {E : En} {te : TE} {tg : TG} {a : AE} {g : AG} (h1 : SnE E te a) (h2 : SnG E tg g) : SnS E (tAsg te tg) (aAsg a g) :=
  ⟨fun {D ρ Ω} h {P F H σ D'} k o rp => h1.go h o rp fun q o1 s1 r1 => h2.go q o1 (rpe_same s1 rp) r1 fun q2 rp2 => k.nx q2 o1 s1 rp2⟩
theorem js_asg (ha : JE X G e aa) (hg : JG X G tg g) (hs : swapsWithSole [tg] e pos.line X.env = pure false := by rfl) (hw : swappedStores [tg] e X.env = pure none := by rfl) (h1 : (assignEach [tg] X.env).map (·.2) = [assign tg X.env] := by rfl) : JS X G (.Assign [tg] e pos) (aAsg aa g) := by
  obtain ⟨_, p1, q1⟩ := ha
  obtain ⟨_, p2, q2⟩ := hg
  exact ⟨_, ps_asg p1 p2 hs hw h1, asg_ok q1 q2⟩
theorem gN_ok {E : En} {i : Nat} : SnG E (gName i) (gN i) := ⟨fun {x ρ k} h {P F H Ω v σ Q} o rp r q => q h (pr_set (R := RpS E.K F) (y := some x) ⟨_, rfl, r⟩ i rp)⟩
theorem js_set {i : Nat} {x : Str} {pos' : Pos} (hN : X.N.Nodup) (hi : X.N[i]? = some x) (hx : Loc X.env.scope x) (ha : JE X G e aa) (hs : swapsWith e (some (.Name x pos')) pos.line X.env = pure false := by rfl) (hf : X.fn x = true ∨ X.env.scope.names.lookup x = some .local := by first | exact .inl rfl | exact .inr rfl | assumption) :
    JS X G (.Assign [.Name x pos'] e pos) (aAsg aa (gN i)) := by
  obtain ⟨_, p1, q1⟩ := ha
  exact ⟨_, ps_set hN hi hx p1 hs hf, asg_ok q1 gN_ok⟩
/-- a, b = e1, e2 and a, b, c = e1, e2, e3, plain names -/
def aPar2 (i j : Nat) (t : AA) : AS := fun D ρ Ω => t ρ Ω fun xs Ω' => match xs with
  | [x, y] => D.nx ((ρ.set i (some x)).set j (some y)) Ω'
  | _ => False
def aPar3 (i j l : Nat) (t : AA) : AS := fun D ρ Ω => t ρ Ω fun xs Ω' => match xs with
  | [x, y, z] => D.nx (((ρ.set i (some x)).set j (some y)).set l (some z)) Ω'
  | _ => False
theorem js_par2 {i j : Nat} {x y : Str} {px py pt : Pos} {kt k2 pt2} (hc : X.calm = true) (hN : X.N.Nodup) (hi : X.N[i]? = some x) (hj : X.N[j]? = some y) (hij : i ≠ j)
    (hx : X.env.scope.names.lookup x = some .local) (hy : X.env.scope.names.lookup y = some .local) (ha : JA X G [a, b] ta)
    (hw : swappedStores [.Tuple [.Name x px, .Name y py] kt pt] (.Tuple [a, b] k2 pt2) X.env = pure (some [x, y]))
    (hs : swapsWithSole [.Tuple [.Name x px, .Name y py] kt pt] (.Tuple [a, b] k2 pt2) pos.line X.env = pure false := by rfl) :
    JS X G (.Assign [.Tuple [.Name x px, .Name y py] kt pt] (.Tuple [a, b] k2 pt2) pos) (aPar2 i j ta) := by
  obtain ⟨_, p1, q1⟩ := ha
  refine ⟨_, ps_par hc hN hi hj hij hx hy p1 hw hs, ⟨fun {D ρ Ω} h {P F H σ D'} k o rp => q1.go h o rp fun {vs svs Ω1 F1 H1} q o1 s1 r1 => ?_⟩⟩
  split at q
  · obtain ⟨v, u, rfl, r, r'⟩ := pr2 r1
    exact ⟨v, u, rfl, k.nx q o1 s1 (pr_set (R := RpS X.K F1) (y := some _) ⟨_, rfl, r'⟩ _ (pr_set (R := RpS X.K F1) (y := some _) ⟨_, rfl, r⟩ _ (rpe_same s1 rp)))⟩
  · exact q.elim
theorem js_par3 {c : Expr} {i j l : Nat} {x y z : Str} {px py pz pt : Pos} {kt k2 pt2} (hc : X.calm = true) (hN : X.N.Nodup) (hi : X.N[i]? = some x) (hj : X.N[j]? = some y) (hl : X.N[l]? = some z) (hij : i ≠ j) (hil : i ≠ l) (hjl : j ≠ l)
    (hx : X.env.scope.names.lookup x = some .local) (hy : X.env.scope.names.lookup y = some .local) (hz : X.env.scope.names.lookup z = some .local) (ha : JA X G [a, b, c] ta)
    (hw : swappedStores [.Tuple [.Name x px, .Name y py, .Name z pz] kt pt] (.Tuple [a, b, c] k2 pt2) X.env = pure (some [x, y, z]))
    (hs : swapsWithSole [.Tuple [.Name x px, .Name y py, .Name z pz] kt pt] (.Tuple [a, b, c] k2 pt2) pos.line X.env = pure false := by rfl) :
    JS X G (.Assign [.Tuple [.Name x px, .Name y py, .Name z pz] kt pt] (.Tuple [a, b, c] k2 pt2) pos) (aPar3 i j l ta) := by
  obtain ⟨_, p1, q1⟩ := ha
  refine ⟨_, ps_par3 hc hN hi hj hl hij hil hjl hx hy hz p1 hw hs, ⟨fun {D ρ Ω} h {P F H σ D'} k o rp => q1.go h o rp fun {vs svs Ω1 F1 H1} q o1 s1 r1 => ?_⟩⟩
  split at q
  · cases r1 with
    | cons r1 r2 =>
      obtain ⟨v, u, rfl, r, r'⟩ := pr2 r2
      exact ⟨_, v, u, rfl, k.nx q o1 s1 (pr_set (R := RpS X.K F1) (y := some _) ⟨_, rfl, r'⟩ _ (pr_set (R := RpS X.K F1) (y := some _) ⟨_, rfl, r⟩ _ (pr_set (R := RpS X.K F1) (y := some _) ⟨_, rfl, r1⟩ _ (rpe_same s1 rp))))⟩
  · exact q.elim
def aExp (a : AE) : AS := fun D ρ Ω => a ρ Ω fun _ Ω' => D.nx ρ Ω'
theorem js_expr (ha : JE X G e aa) (hs : swapsWith e none pos.line X.env = pure false := by rfl) : JS X G (.Expr e pos) (aExp aa) := by
  obtain ⟨_, p1, q1⟩ := ha
  exact ⟨_, ps_expr p1 hs, ⟨fun {D ρ Ω} h {P F H σ D'} k o rp => q1.go h o rp fun q o1 s1 r1 => k.nx q o1 s1 (rpe_same s1 rp)⟩⟩
def aRet (a : AE) : AS := fun D ρ Ω => a ρ Ω D.rt
theorem js_ret (ha : JE X G e aa) : JS X G (.Return (some e) pos) (aRet aa) := by
  obtain ⟨_, p1, q1⟩ := ha
  exact ⟨_, ps_ret p1, ⟨fun {D ρ Ω} h {P F H σ D'} k o rp => q1.go h o rp fun q o1 s1 r1 => k.rt q o1 s1 r1⟩⟩
/-- cells of the def's own are let go -/
theorem Ok.sub {E : En} {P F H : Hp} {Ω Ω' : Om} (o : Ok E P F H Ω) (s : Ω'.Sublist Ω) : Ok E P F H Ω' := ⟨o.p0, o.pf, fun p h => o.pd p (s.subset h), o.pF, o.f0, o.fn, o.dm, o.ex, fun p h => o.own p (s.subset h), o.nd.sublist (s.map _)⟩
def rtD (k : PhiE) (x : SV) (Ω : Om) : Prop := ∃ Ω2 : Om, Ω2.Sublist Ω ∧ k x Ω2
def aRetD (a : AE) : AS := fun D ρ Ω => a ρ Ω (rtD D.rt)
theorem js_retD (ha : JE X G e aa) : JS X G (.Return (some e) pos) (aRetD aa) := by
  obtain ⟨_, p1, q1⟩ := ha
  refine ⟨_, ps_ret p1, ⟨fun {D ρ Ω} h {P F H σ D'} k o rp => q1.go h o rp fun q o1 s1 r1 => ?_⟩⟩
  obtain ⟨Ω2, sl, q⟩ := q
  exact k.rt q (o1.sub sl) s1 r1
def aRetN : AS := fun D _ Ω => D.rt (.d .none) Ω
theorem js_retN : JS X G (.Return none pos) aRetN := ⟨_, ps_retN, ⟨fun {D ρ Ω} h {P F H σ D'} k o rp => k.rt h o (Same.refl F) .non⟩⟩
/-- a cell is taken out -/
inductive Cut : Om → Addr → Om → Prop where
  | here {a : Addr} {c : OC} {Ω : Om} : Cut ((a, c) :: Ω) a Ω
  | there {a : Addr} {Ω Ω' : Om} {p : Addr × OC} : Cut Ω a Ω' → Cut (p :: Ω) a (p :: Ω')
theorem Cut.addr : ∀ {Ω Ω' : Om} {a : Addr}, Cut Ω a Ω' → (Ω.map (·.1)).Nodup → (∀ x ∈ Ω', x ∈ Ω ∧ x.1 ≠ a) ∧ (Ω'.map (·.1)).Nodup
  | _, _, _, .here, nd => by
    rw [List.map_cons] at nd
    obtain ⟨n1, n2⟩ := List.nodup_cons.mp nd
    exact ⟨fun x hx => ⟨List.mem_cons_of_mem _ hx, fun z => n1 (by rw [← z]; exact List.mem_map_of_mem (f := (·.1)) hx)⟩, n2⟩
  | p :: _, _, a, .there h, nd => by
    have hm : ∀ {Ω Ω' : Om} {b : Addr}, Cut Ω b Ω' → b ∈ Ω.map (·.1) := fun {Ω Ω' b} h => by
      induction h with
      | here => exact List.mem_cons_self
      | there _ ih => exact List.mem_cons_of_mem _ ih
    rw [List.map_cons] at nd
    obtain ⟨n1, n2⟩ := List.nodup_cons.mp nd
    obtain ⟨h1, h2⟩ := h.addr n2
    refine ⟨fun x hx => ?_, ?_⟩
    · rcases List.mem_cons.mp hx with q | q
      · rw [q]; exact ⟨List.mem_cons_self, fun z => n1 (by rw [z]; exact hm h)⟩
      · exact ⟨List.mem_cons_of_mem _ (h1 x q).1, (h1 x q).2⟩
    · rw [List.map_cons]
      refine List.nodup_cons.mpr ⟨fun z => ?_, h2⟩
      obtain ⟨x, hx, e⟩ := List.mem_map.mp z
      exact n1 (by rw [← e]; exact List.mem_map_of_mem (f := (·.1)) (h1 x hx).1)
/-- return of a list of the def's own: it is frozen -/
def rtF (Fr : Addr → Prop) (k : PhiE) (x : SV) (Ω : Om) : Prop := match x with
  | .r (.ref p) => ∃ ds f, At Ω p (.lst ds) f ∧ Fr p ∧ ∃ Ω2, Cut Ω p Ω2 ∧ ∃ Ω3 : Om, Ω3.Sublist Ω2 ∧ k (.d (.list ds)) Ω3
  | _ => False
def aRetF (Fr : Addr → Prop) (a : AE) : AS := fun D ρ Ω => a ρ Ω (rtF Fr D.rt)
theorem js_retF (ha : JE X G e aa) : JS X G (.Return (some e) pos) (aRetF (fun p => G.H0 p = none) aa) := by
  obtain ⟨_, p1, q1⟩ := ha
  refine ⟨_, ps_ret p1, ⟨fun {D ρ Ω} h {P F H σ D'} k o rp => q1.go h o rp fun {v sv Ω1 F1 H1} q o1 s1 r1 => ?_⟩⟩
  unfold rtF at q
  split at q
  · obtain ⟨ds, f, t, fr, Ω2, c, Ω3, sl, q⟩ := q
    cases (show v = _ from r1)
    obtain ⟨nF, _⟩ := o1.at_ t
    obtain ⟨vs, h1, h2⟩ := o1.lst t
    obtain ⟨c1, c2⟩ := c.addr o1.nd
    obtain ⟨o2, s2⟩ := o1.frz (c := .lst ds) h1 fr nF (o1.pd _ t.mem) c1 c2
    exact k.rt q (o2.sub sl) (s1.trans s2) (Dq.lst upd_same (dqa_same s2 _ _ h2))
  · exact q.elim
def aIf (t : AT) (a b : AS) : AS := fun D ρ Ω => t ρ Ω fun c Ω' => br c (a D ρ Ω') (b D ρ Ω')
theorem js_if {c : Expr} {xs ys : List Stmt} (hc : JT X G c at_) (ha : JSs X G xs s) (hb : JSs X G ys t) : JS X G (.If c xs ys pos) (aIf at_ s t) := by
  obtain ⟨_, p1, q1⟩ := hc
  obtain ⟨_, p2, q2⟩ := ha
  obtain ⟨_, p3, q3⟩ := hb
  refine ⟨_, ps_if p1 p2 p3, ⟨fun {D ρ Ω} h {P F H σ D'} k o rp => q1.go h o rp fun {b Ω1 F1 H1} q o1 s1 => br_ite ?_⟩⟩
  replace q := br_out q
  cases b
  · exact q3.go q (k.up s1) o1 (rpe_same s1 rp)
  · exact q2.go q (k.up s1) o1 (rpe_same s1 rp)
def aWhile (t : AT) (s : AS) : AS := fun D ρ Ω => ∃ W : Nat → Rho → Om → Prop, (∃ m, W m ρ Ω) ∧ ∀ m ρ Ω, W m ρ Ω →
  t ρ Ω fun b Ω1 => br b (s { D with nx := fun ρ' Ω' => ∃ m', m' < m ∧ W m' ρ' Ω', ct := fun ρ' Ω' => ∃ m', m' < m ∧ W m' ρ' Ω', bk := D.nx } ρ Ω1) (D.nx ρ Ω1)
theorem js_while {c : Expr} {body : List Stmt} (hp : PassesOwn (model X.prog X.w) X.A X.env X.xe) (hc : JT X G c at_) (hb : JSs X G body s) : JS X G (.While c body [] pos) (aWhile at_ s) := by
  obtain ⟨_, p1, q1⟩ := hc
  obtain ⟨tb, p2, q2⟩ := hb
  refine ⟨_, ps_while hp p1 p2, ⟨fun {D ρ Ω} h {P F H σ D'} k o rp => ?_⟩⟩
  obtain ⟨W, ⟨m0, w0⟩, turn⟩ := h
  refine ⟨fun m σ H => ∃ ρ Ω F', Same F F' ∧ W m ρ Ω ∧ Ok (enX X G) P F' H Ω ∧ RpE X.K F' σ ρ, ⟨m0, ρ, Ω, F, Same.refl F, w0, o, rp⟩, ?_⟩
  rintro m σ1 H1 ⟨ρ1, Ω1, F1, z1, w1, o1, rp1⟩
  refine q1.go (turn m ρ1 Ω1 w1) o1 rp1 fun {b Ω2 F2 H2} q o2 s2 => br_ite ?_
  replace q := br_out q
  have z2 := z1.trans s2
  cases b
  · exact k.nx q o2 z2 (rpe_same s2 rp1)
  · refine ⟨fun σ' H' => ∃ m', m' < m ∧ ∃ ρ Ω F', Same F F' ∧ W m' ρ Ω ∧ Ok (enX X G) P F' H' Ω ∧ RpE X.K F' σ' ρ, fun σ' H' z => z, ?_⟩
    refine q2.go q ⟨fun z o z3 rp => ?_, fun z o z3 r => k.rt z o (z2.trans z3) r, fun z o z3 rp => k.nx z o (z2.trans z3) rp, fun z o z3 rp => ?_⟩ o2 (rpe_same s2 rp1)
    · obtain ⟨m', h1, h2⟩ := z
      exact ⟨m', h1, _, _, _, z2.trans z3, h2, o, rp⟩
    · obtain ⟨m', h1, h2⟩ := z
      exact ⟨m', h1, _, _, _, z2.trans z3, h2, o, rp⟩
def aFor (ai : AI) (g : AG) (s : AS) : AS := fun D ρ Ω => ai ρ Ω fun xs Kp Ω1 => ∃ W : Nat → Rho → Om → Prop, W 0 ρ Ω1 ∧ (∀ i ρ Ω, W i ρ Ω → Kp Ω) ∧
  (∀ i x ρ Ω, xs[i]? = some x → W i ρ Ω → g x ρ fun ρ' => s { D with nx := W (i + 1), ct := W (i + 1), bk := D.nx } ρ' Ω) ∧ ∀ ρ Ω, W xs.length ρ Ω → D.nx ρ Ω
theorem js_for {iter : Expr} {body : List Stmt} (hp : PassesOwn (model X.prog X.w) X.A X.env X.xe) (hc : X.calm = true) (hi : JI X G tg iter ai) (hg : JG X G tg g) (hb : JSs X G body s) (h : ∀ {wi : TI} {g' : TG} {tb : TS}, PI X tg iter wi → PG X tg g' → PSs X body tb → PS X (.For tg iter body [] pos) (tFor wi g' tb) := by intro _ _ _ a b c; first | exact ps_for PassesOwn.never rfl a b c | exact ps_for (passes_of rfl) rfl a b c | exact ps_for (by assumption) rfl a b c) :
    JS X G (.For tg iter body [] pos) (aFor ai g s) := by
  obtain ⟨wi, p1, q1⟩ := hi
  obtain ⟨g', p2, q2⟩ := hg
  obtain ⟨tb, p3, q3⟩ := hb
  refine ⟨_, h p1 p2 p3, ⟨fun {D ρ Ω} h {P F H σ D'} k o rp => q1.go h o rp fun {J xs Kp Ω1 F1 H1} q o1 s1 it => ?_⟩⟩
  obtain ⟨W, w0, wk, turn, fin⟩ := q
  refine ⟨fun i m σ H => m = xs.length - i ∧ i ≤ xs.length ∧ ∃ ρ Ω F, Same F1 F ∧ W i ρ Ω ∧ Ok (enX X G) P F H Ω ∧ RpE X.K F σ ρ, ⟨_, rfl, Nat.zero_le _, ρ, Ω1, F1, Same.refl F1, w0, o1, rpe_same s1 rp⟩, ?_⟩
  rintro i m σ2 H2 ⟨rfl, hi, ρ2, Ω2, F2, s2, w2, o2, rp2⟩
  by_cases hlt : i < xs.length
  · refine Or.inr ⟨it.go s2 o2 (wk _ _ _ w2) hlt, fun σ' H' => ∃ ρ Ω F, Same F1 F ∧ W (i + 1) ρ Ω ∧ Ok (enX X G) P F H' Ω ∧ RpE X.K F σ' ρ, fun σ' H' z => ⟨_, by omega, rfl, hlt, z⟩, fun x H' y => ?_⟩
    have e : xs[i]? = some xs[i] := List.getElem?_eq_getElem hlt
    obtain ⟨F3, o3, s3, r3⟩ := it.yl s2 o2 (wk _ _ _ w2) y e
    refine q2.go (turn i _ ρ2 Ω2 e w2) o3 (rpe_same s3 rp2) r3 fun {σ4 ρ4} q4 rp4 => ?_
    have z3 := s2.trans s3
    exact q3.go q4 ⟨fun z o z4 rp => ⟨_, _, _, z3.trans z4, z, o, rp⟩, fun z o z4 r => k.rt z o ((s1.trans z3).trans z4) r, fun z o z4 rp => k.nx z o ((s1.trans z3).trans z4) rp, fun z o z4 rp => ⟨_, _, _, z3.trans z4, z, o, rp⟩⟩ o3 rp4
  · have e : i = xs.length := by omega
    subst e
    exact Or.inl ⟨it.st s2 o2 (wk _ _ _ w2) (Nat.le_refl _), k.nx (fin _ _ w2) o2 (s1.trans s2) rp2⟩
end
end Z
/-! Z7: xs[i] = e; comprehensions; a def by its body; the law's end. -/
namespace Z
open PySem PySem.Spec PyProof.Rows L2
section
variable {X : Cx} {G : Gn} {e a b tg : Expr} {aa ab ac : AE} {at_ bt : AT} {ta tb : AA} {pos : Pos} {m : Mode} {g : AG} {gs : AGs} {s t : AS} {ai : AI}
/-- o[i] = e on a cell's list -/
def aSetIx (a o i : AE) : AS := fun D ρ Ω => a ρ Ω fun x Ω1 => o ρ Ω1 fun l Ω2 => i ρ Ω2 fun j Ω3 => match l, j with
  | .r (.ref p), .d (.int n) => ∃ c f, At Ω3 p c f ∧ (match c, x with
    | .lst ds, .d d => ∃ q, ixN ds.length n = some q ∧ D.nx ρ (f (.lst (ds.set q d)))
    | .lx ys, x => ∃ q, ixN ys.length n = some q ∧ D.nx ρ (f (.lx (ys.set q x)))
    | _, _ => False)
  | _, _ => False
theorem js_setIx (he : JE X G e aa) (ha : JE X G a ab) (hb : JE X G b ac) {spos : Pos}
    (h : ∀ {te ta tb : TE}, PE X e te → PE X a ta → PE X b tb → PS X (.Assign [.Subscript a b pos] e spos) (tAsg te (gSub ta tb rSetL)) := by intro _ _ _ p q r; exact ps_asg p (pg_sub q r set_list)) :
    JS X G (.Assign [.Subscript a b pos] e spos) (aSetIx aa ab ac) := by
  obtain ⟨te, p1, q1⟩ := he
  obtain ⟨ta, p2, q2⟩ := ha
  obtain ⟨tb, p3, q3⟩ := hb
  refine ⟨_, h p1 p2 p3, ⟨fun {D ρ Ω} h {P F H σ D'} k o rp => q1.go h o rp fun {v sv Ω1 F1 H1} z1 o1 s1 r1 => q2.go z1 o1 (rpe_same s1 rp) fun {v2 sv2 Ω2 F2 H2} z2 o2 s2 r2 => q3.go z2 o2 (rpe_same (s1.trans s2) rp) fun {v3 sv3 Ω3 F3 H3} z3 o3 s3 r3 => ?_⟩⟩
  have k3 := (s1.trans s2).trans s3
  have r1' := (r1.same s2).same s3
  dsimp only at z3
  split at z3
  · obtain ⟨c, f, t, z3⟩ := z3
    cases (show v2 = _ from r2)
    cases dqi r3
    split at z3
    · obtain ⟨q, e1, z⟩ := z3
      obtain ⟨vs, h1, h2⟩ := o3.lst t
      exact ⟨_, vs, _, q, rfl, rfl, h1, by rw [dqa_len h2]; exact e1, k.nx z (o3.put t (dqa_set q h2 r1')) k3 (rpe_same k3 rp)⟩
    · obtain ⟨q, e1, z⟩ := z3
      obtain ⟨vs, h1, h2⟩ := o3.lx t
      exact ⟨_, vs, _, q, rfl, rfl, h1, by rw [h2.length]; exact e1, k.nx z (o3.put t (pr_set r1' q h2)) k3 (rpe_same k3 rp)⟩
    · exact z3.elim
  · exact z3.elim
/-! ### comprehensions -/
def wipR (ρ : Rho) : List Nat → Rho
  | [] => ρ
  | v :: vs => (wipR ρ vs).set v none
theorem wip_ok {K : Frag} {F : Hp} {σ : L2.St} {ρ : Rho} (h : RpE K F σ ρ) : ∀ vs : List Nat, RpE K F (wipe σ vs) (wipR ρ vs)
  | [] => h
  | v :: vs => pr_set (R := RpS K F) (x := none) (y := none) trivial v (wip_ok h vs)
/-- only the block's own slots are stored -/
def GOnly (g : TG) (vs : List Nat) : Prop := ∀ {v : V} {σ : L2.St} {H : Hp} {Q Q' : L2.St → Hp → Prop}, g v σ H Q → (∀ σ2 H2, wipe σ2 vs = wipe σ vs → Q σ2 H2 → Q' σ2 H2) → g v σ H Q'
theorem wipe_set {σ : L2.St} {x : Option V} {i : Nat} : ∀ {vs : List Nat}, i ∈ vs → wipe (σ.set i x) vs = wipe σ vs
  | [], h => by cases h
  | v :: vs, h => by
    show (wipe (σ.set i x) vs).set v none = (wipe σ vs).set v none
    have comm : ∀ ws : List Nat, i ∉ ws → wipe (σ.set i x) ws = (wipe σ ws).set i x := fun ws => by
      induction ws with
      | nil => exact fun _ => rfl
      | cons w ws ih =>
        intro hn
        show (wipe (σ.set i x) ws).set w none = ((wipe σ ws).set w none).set i x
        rw [ih fun z => hn (List.mem_cons_of_mem _ z)]
        exact (List.set_comm _ _ (fun z => hn (by rw [z]; exact List.mem_cons_self)))
    by_cases hm : i ∈ vs
    · rw [wipe_set hm]
    · rcases List.mem_cons.mp h with e | e
      · rw [comm vs hm, e, List.set_set]
      · exact absurd e hm
theorem wipe_wipe {σ : L2.St} : ∀ {vs ws : List Nat}, (∀ v ∈ vs, v ∈ ws) → wipe (wipe σ vs) ws = wipe σ ws
  | [], ws, _ => rfl
  | v :: vs, ws, h => by
    show wipe ((wipe σ vs).set v none) ws = wipe σ ws
    rw [wipe_set (h v List.mem_cons_self), wipe_wipe fun w hw => h w (List.mem_cons_of_mem _ hw)]
def JGo (X : Cx) (G : Gn) (tg : Expr) (ag : AG) (vs : List Nat) : Prop := ∃ g, PG X tg g ∧ SnG (enX X G) g ag ∧ GOnly g vs
def JGso (X : Cx) (G : Gn) (tg : List Expr) (ag : AGs) (vs : List Nat) : Prop := ∃ g, PGs X tg g ∧ SnGs (enX X G) g ag ∧ ∀ {xs : List V} {σ : L2.St} {H : Hp} {Q Q' : L2.St → Hp → Prop}, g xs σ H Q → (∀ σ2 H2, wipe σ2 vs = wipe σ vs → Q σ2 H2 → Q' σ2 H2) → g xs σ H Q'
theorem jgo_name {i : Nat} {x : Str} {vs : List Nat} (hi' : i ∈ vs) (hN : X.N.Nodup) (hi : X.N[i]? = some x) (hx : Loc X.env.scope x) (hf : X.fn x = true ∨ X.env.scope.names.lookup x = some .local := by first | exact .inl rfl | exact .inr rfl | assumption) : JGo X G (.Name x pos) (gN i) vs :=
  ⟨_, pg_name hN hi hx hf, gN_ok, fun h k => k _ _ (wipe_set hi') h⟩
theorem jgso0 {vs : List Nat} : JGso X G [] gs0 vs := by
  refine ⟨_, pgs_nil, ⟨fun {xs ρ k} h {P F H Ω vs σ Q} o rp r q => ?_⟩, fun h k => ⟨h.1, k _ _ rfl h.2⟩⟩
  unfold gs0 at h
  split at h
  · cases r
    exact ⟨rfl, q h rp⟩
  · exact h.elim
theorem jgso1 {es : List Expr} {vs : List Nat} (h1 : JGo X G e g vs) (h2 : JGso X G es gs vs) (hs : (assignEach (e :: es) X.env).map (·.2) = assign e X.env :: (assignEach es X.env).map (·.2) := by rfl) : JGso X G (e :: es) (gs1 g gs) vs := by
  obtain ⟨g', p1, q1, z1⟩ := h1
  obtain ⟨u, p2, q2, z2⟩ := h2
  refine ⟨_, pgs_cons p1 p2 hs, ⟨fun {xs ρ k} h {P F H Ω vs σ Q} o rp r q => ?_⟩, fun {xs σ H Q Q'} h k => ?_⟩
  · unfold gs1 at h
    split at h
    · cases r with
      | cons r1 r2 => exact ⟨_, _, rfl, q1.go h o rp r1 fun h' rp' => q2.go h' o rp' r2 q⟩
    · exact h.elim
  · obtain ⟨v, r, e, h⟩ := h
    exact ⟨v, r, e, z1 h fun σ2 H2 e2 h2 => z2 h2 fun σ3 H3 e3 h3 => k σ3 H3 (e3.trans e2) h3⟩
theorem jgo_tup {es : List Expr} {n k' : Nat} {vs : List Nat} (hc : X.calm = true) (h : JGso X G es gs vs) (hn : (assignEach es X.env).length = n := by rfl) (hst : (assignEach es X.env).findIdx? (·.1) = none := by rfl) : JGo X G (.Tuple es k' pos) (gT n gs) vs := by
  obtain ⟨u, p, q', z⟩ := h
  refine ⟨_, pg_tup hc p hn hst, ⟨fun {x ρ k} h {P F H Ω v σ Q} o rp r q => ?_⟩, fun {v σ H Q Q'} h k => ?_⟩
  · unfold gT at h
    split at h
    · obtain ⟨p, vs, rfl, hF, da⟩ := dqt r
      exact ⟨p, vs, rfl, sqt_same o.ex hF, by rw [dqa_len da]; exact h.1, q'.go h.2 o rp (of_dqa da) q⟩
    · exact h.elim
  · obtain ⟨a, xs, e, h1, h2, h3⟩ := h
    exact ⟨a, xs, e, h1, h2, z h3 k⟩
def JTs (X : Cx) (G : Gn) (e : List Expr) (a : AT) : Prop := ∃ te, PTs X e te ∧ SnT (enX X G) te a
def aYes : AT := fun _ Ω Φ => Φ true Ω
theorem jts_nil : JTs X G [] aYes := ⟨_, pts_nil, ⟨fun {ρ Ω Φ} h {P F H σ Q} o rp k => k h o (Same.refl F)⟩⟩
theorem jts_one {c : Expr} (h : JT X G c at_) : JTs X G [c] at_ := by
  obtain ⟨_, p, q⟩ := h
  exact ⟨_, pts_one p, q⟩
def aLc (m : Mode) (ai : AI) (g : AG) (tt : AT) (te : AE) (vs : List Nat) : AE := fun ρ Ω Φ => ai ρ Ω fun xs Kp Ω1 => xs.length ≤ 1000000 ∧ ∃ W : Nat → List SV → Om → Prop, W 0 [] Ω1 ∧ (∀ i acc Ω, W i acc Ω → Kp Ω ∧ acc.length ≤ i) ∧
  (∀ i x acc Ω, xs[i]? = some x → W i acc Ω → g x (wipR ρ vs) fun ρ' => tt ρ' Ω fun b Ω2 => br b (te ρ' Ω2 fun y Ω3 => W (i + 1) (acc ++ [y]) Ω3) (W (i + 1) acc Ω2)) ∧
  ∀ acc Ω, W xs.length acc Ω → newX m acc Ω Φ
theorem lc_ok {E : En} {wi : TI} {g' : TG} {tt' : TT} {te' : TE} {ai : AI} {g : AG} {tt : AT} {te : AE} {vs : List Nat} (hm : MOk E m) (h1 : SnI E wi ai) (h2 : SnG E g' g) (h2' : GOnly g' vs) (h3 : SnT E tt' tt) (h4 : SnE E te' te) : SnE E (tLc wi g' tt' te' vs) (aLc m ai g tt te vs) := by
  refine ⟨fun {ρ Ω Φ} h {P F H σ Q} o rp k => h1.go h o rp fun {J xs Kp Ω1 F1 H1} q o1 s1 it => fun Dl hD => ?_⟩
  obtain ⟨hz, W, w0, wk, turn, fin⟩ := q
  have nP : P Dl = none := o1.pf.free hD
  have s0 : Same E.P0 P := o1.p0
  have n00 : E.P0 Dl = none := s0.free nP
  have nF : ∀ {Q' F' H' : Hp} {Ω' : Om} {u : HO}, Ok E (upd Q' Dl u) F' H' Ω' → F' Dl = none := fun ok => ok.pF Dl (by rw [upd_same]; exact fun z => nomatch z)
  refine ⟨fun i m H => m = xs.length - i ∧ i ≤ xs.length ∧ ∃ acc ws F' Ω', Same F1 F' ∧ W i acc Ω' ∧ Ok E (upd P Dl (.lst ws)) F' H Ω' ∧ Paired (Rp E.K F') ws acc, ⟨_, rfl, Nat.zero_le _, [], [], F1, Ω1, Same.refl F1, w0, o1.guard hD, .nil⟩, ?_⟩
  rintro i mm H2 ⟨rfl, hi, acc, ws, F2, Ω2, s2, w2, o2, r2⟩
  obtain ⟨kp, hl⟩ := wk _ _ _ w2
  by_cases hlt : i < xs.length
  · refine Or.inr ⟨it.go s2 o2 kp hlt, fun H => ∃ acc ws F' Ω', Same F1 F' ∧ W (i + 1) acc Ω' ∧ Ok E (upd P Dl (.lst ws)) F' H Ω' ∧ Paired (Rp E.K F') ws acc, fun H' z => ⟨_, by omega, rfl, hlt, z⟩, fun x H' y => ?_⟩
    have e : xs[i]? = some xs[i] := List.getElem?_eq_getElem hlt
    obtain ⟨F3, o3, s3, r3⟩ := it.yl s2 o2 kp y e
    have z3 := s2.trans s3
    refine h2' (h2.go (turn i _ acc Ω2 e w2) o3 (wip_ok (rpe_same (s1.trans z3) rp) vs) r3 (Q := fun σ2 H4 => H4 = H' ∧ ∃ ρ', (tt ρ' Ω2 fun b Ω2 => br b (te ρ' Ω2 fun y Ω3 => W (i + 1) (acc ++ [y]) Ω3) (W (i + 1) acc Ω2)) ∧ RpE E.K F3 σ2 ρ') fun {σ' ρ'} h5 rp5 => ⟨rfl, ρ', h5, rp5⟩) ?_
    rintro σ2 H4 ew ⟨rfl, ρ', h5, rp5⟩
    refine ⟨by rw [ew, wipe_wipe fun v hv => hv], h3.go h5 o3 rp5 fun {b Ω5 F5 H5} q5 o5 s5 => br_ite ?_⟩
    replace q5 := br_out q5
    cases b
    · exact ⟨acc, ws, F5, Ω5, z3.trans s5, q5, o5, rps_same (s3.trans s5) r2⟩
    · refine h4.go q5 o5 (rpe_same s5 rp5) fun {v sv Ω6 F6 H6} q6 o6 s6 r6 => ⟨ws, o6.pf Dl _ upd_same, ?_, acc ++ [sv], ws ++ [v], F6, Ω6, (z3.trans s5).trans s6, q6, o6.poke n00 (nF o6) nP, pr_app (rps_same ((s3.trans s5).trans s6) r2) (.cons r6 .nil)⟩
      have := r2.length
      have l1 : (1000000 : Nat) < sizeLine := by decide
      omega
  · have e : i = xs.length := by omega
    subst e
    refine Or.inl ⟨it.st s2 o2 kp (Nat.le_refl _), ?_⟩
    have q := fin _ _ w2
    have n0 : E.H0 Dl = none := o1.dm _ hD
    cases m with
    | none =>
      have q' : (match dataOf acc with | some ds => Φ (.d (.list ds)) Ω2 | none => False) := q
      split at q'
      · rename_i ds e
        obtain ⟨o7, s7⟩ := o2.adoptF s0 nP n0
        exact k q' o7 ((s1.trans s2).trans s7) (Dq.lst upd_same (dqa_same s7 _ _ (dataOf_ok e r2)))
      · exact q'.elim
    | some Fr => exact k (q Dl (hm _ rfl Dl n0)) (o2.adopt s0 nP (mkL_ok r2)) (s1.trans s2) rfl
/-- one reading for all contexts of a block -/
theorem all_pe {ι : Type} {Xs : ι → Cx} {E : En} (h : ∀ i, ∃ te, PE (Xs i) e te ∧ SnE E te aa) : ∃ te, (∀ i, PE (Xs i) e te) ∧ SnE E te aa := by
  refine ⟨fun σ H Q => ∀ i, (h i).choose σ H Q, fun i => ⟨fun pins s σ H Q I q => (h i).choose_spec.1.run pins s σ H Q I (q i)⟩, ⟨fun {ρ Ω Φ} q {P F H σ Q} o rp k i => (h i).choose_spec.2.go q o rp k⟩⟩
theorem all_pts {ι : Type} {Xs : ι → Cx} {E : En} {es : List Expr} (h : ∀ i, ∃ te, PTs (Xs i) es te ∧ SnT E te at_) : ∃ te, (∀ i, PTs (Xs i) es te) ∧ SnT E te at_ := by
  refine ⟨fun σ H Q => ∀ i, (h i).choose σ H Q, fun i => ⟨fun pins s σ H Q I q => (h i).choose_spec.1.run pins s σ H Q I (q i)⟩, ⟨fun {ρ Ω Φ} q {P F H σ Q} o rp k i => (h i).choose_spec.2.go q o rp k⟩⟩
theorem all_pg {ι : Type} {Xs : ι → Cx} {E : En} {vs : List Nat} (h : ∀ i, ∃ g', PG (Xs i) e g' ∧ SnG E g' g ∧ GOnly g' vs) : ∃ g', (∀ i, PG (Xs i) e g') ∧ SnG E g' g ∧ GOnly g' vs := by
  refine ⟨fun v σ H Q => ∀ i, (h i).choose v σ H Q, fun i => ⟨fun pins s σ H v u Q I r q => (h i).choose_spec.1.run pins s σ H v u Q I r (q i)⟩, ⟨fun {x ρ k} q {P F H Ω v σ Q} o rp r k i => (h i).choose_spec.2.1.go q o rp r k⟩, fun {v σ H Q Q'} q k i => (h i).choose_spec.2.2 (q i) k⟩
section
variable {elt iter : Expr} {ifs : List Expr} {scope : Scope} {own : List (Str × Nat)} {tt : AT} {te : AE}
abbrev BI := Shared × Hp × Addr × List (Str × Addr) × List Addr
abbrev blkX (X : Cx) (scope : Scope) (i : BI) : Cx := X.blk i.1 i.2.1 scope (compEnvC scope i.2.2.2.1 i.2.2.1 X.env) i.2.2.2.2
theorem je_lc (hm : MOk (enX X G) m) (hc : X.calm = true) (hN : X.N.Nodup) (hi : JI X G tg iter ai) (ok : BlkOk X.N X.env.scope scope own)
    (hg : ∀ i, JGo (blkX X scope i) G tg g (own.map (·.2))) (ht : ∀ i, JTs (blkX X scope i) G ifs tt) (he : ∀ i, JE (blkX X scope i) G elt te) (hs : ∀ x, foldedSetIterable iter X.env x = pure x := by intro _; rfl) :
    JE X G (.ListComp elt [⟨tg, iter, ifs, 0⟩] scope pos) (aLc m ai g tt te (own.map (·.2))) := by
  obtain ⟨wi, p1, q1⟩ := hi
  obtain ⟨g', p2, q2, z2⟩ := all_pg (E := enX X G) hg
  obtain ⟨t', p3, q3⟩ := all_pts (E := enX X G) ht
  obtain ⟨e', p4, q4⟩ := all_pe (E := enX X G) he
  exact ⟨_, pe_lc hc hN p1 ok (fun s H C cl fp => p2 (s, H, C, cl, fp)) (fun s H C cl fp => p3 (s, H, C, cl, fp)) (fun s H C cl fp => p4 (s, H, C, cl, fp)) hs, lc_ok hm q1 q2 z2 q3 q4⟩
/-- y = [..] -/
theorem js_setLc {i : Nat} {y : Str} {py spos : Pos} (hm : MOk (enX X G) m) (hc : X.calm = true) (hN : X.N.Nodup) (hy : X.N[i]? = some y) (hyl : X.env.scope.names.lookup y = some .local)
    (hsw : swapsWith (.ListComp elt [⟨tg, iter, ifs, 0⟩] scope pos) (some (.Name y py)) spos.line X.env = pure true) (hi : JI X G tg iter ai) (ok : BlkOk X.N X.env.scope scope own)
    (hg : ∀ i, JGo (blkX X scope i) G tg g (own.map (·.2))) (ht : ∀ i, JTs (blkX X scope i) G ifs tt) (he : ∀ i, JE (blkX X scope i) G elt te) (hs : ∀ x, foldedSetIterable iter X.env x = pure x := by intro _; rfl) :
    JS X G (.Assign [.Name y py] (.ListComp elt [⟨tg, iter, ifs, 0⟩] scope pos) spos) (aAsg (aLc m ai g tt te (own.map (·.2))) (gN i)) := by
  obtain ⟨wi, p1, q1⟩ := hi
  obtain ⟨g', p2, q2, z2⟩ := all_pg (E := enX X G) hg
  obtain ⟨t', p3, q3⟩ := all_pts (E := enX X G) ht
  obtain ⟨e', p4, q4⟩ := all_pe (E := enX X G) he
  exact ⟨_, ps_setLc hc hN hy hyl hsw p1 ok (fun s H C cl fp => p2 (s, H, C, cl, fp)) (fun s H C cl fp => p3 (s, H, C, cl, fp)) (fun s H C cl fp => p4 (s, H, C, cl, fp)) hs, asg_ok (lc_ok hm q1 q2 z2 q3 q4) gN_ok⟩
end
end
/-! ### a def by its body -/
def startR (N : List Str) (svs : List SV) : Rho := svs.map some ++ List.replicate (N.length - svs.length) none
theorem pr_map {α β γ δ : Type} {R : α → β → Prop} {S : γ → δ → Prop} {f : α → γ} {g : β → δ} (h : ∀ a b, R a b → S (f a) (g b)) : ∀ {l : List α} {m : List β}, Paired R l m → Paired S (l.map f) (m.map g)
  | _, _, .nil => .nil
  | _, _, .cons r t => .cons (h _ _ r) (pr_map h t)
theorem pr_rep {α β : Type} {R : α → β → Prop} {a : α} {b : β} (h : R a b) : ∀ n, Paired R (List.replicate n a) (List.replicate n b)
  | 0 => .nil
  | n + 1 => .cons h (pr_rep h n)
theorem start_ok {K : Frag} {F : Hp} {N : List Str} {vs : List V} {svs : List SV} (r : Paired (Rp K F) vs svs) : RpE K F (L2.start N vs) (startR N svs) := by
  unfold L2.start startR
  rw [r.length]
  exact pr_app (pr_map (fun a b q => ⟨a, rfl, q⟩) r) (pr_rep trivial _)
section
variable {P : Program} {w : World} {K : Frag} {mg : Str → Option Value} {base : Heap} {CX : CXT} {k : Nat} {f : Addr} {fd : FuncData} {ps N : List Str} {T : Con} {x qual : Str} {st : Stmt} {as : (Addr → Prop) → XA → AS}
/-- THE RULE for a def: its body's reading as (for the addresses that are new, and what is wished of an exception), and that it keeps the contract T -/
theorem fn_ok (Fu : Fun K x qual st f fd) (S : FnScope N ps (defScope st)) (hT : Ari T ps.length)
    (hb : ∀ (cdv : Value) (A : Around) (outer : List Env) (s : Shared) (H : Hp) (E : XK) (G : Gn) (Ξ : XA), A.guards = some [] → Room k (A.deeper (envOfC qual (defScope st) s.heap.objs.size f cdv)) →
      (∀ {x : XI} {Ω : Om} {P' F H : Hp} {cls : Value} {d : Option Addr}, Ξ x Ω → Ok ⟨G, K⟩ P' F H Ω → RpX K F H cls d x → E cls d H) →
      JSs (cxOf CX P w K mg base N qual (defScope st) f cdv A outer s H E) G (defBody st) (as (fun p => G.H0 p = none) Ξ))
    (hr : ∀ Fr svs Ω Φ Ξ, T svs Ω Φ Ξ → as Fr Ξ { nx := fun _ Ω => Φ (.d .none) Ω, rt := Φ } (startR N svs) Ω) : FnG P w K mg base CX (k + 1) f fd ps (spOf K T) := by
  obtain ⟨oc, od, kV, doc, pm, an, cdv, ct, osl, rfl, lk, hcd⟩ := Fu.ex
  refine fnG_of lk hcd S (fun vs H Q E h => ?_) fun A outer s H vs Q E hgd hrm hsp => ?_
  · obtain ⟨P0, F, Ω, svs, Φ, Ξ, o, r, h, _⟩ := h
    rw [r.length]
    exact hT _ _ _ _ h
  · obtain ⟨P0, F, Ω, svs, Φ, Ξ, o, r, h, k1, k2⟩ := hsp
    obtain ⟨t, p, q⟩ := hb cdv A outer s H E ⟨F, H, P0⟩ Ξ hgd hrm fun z1 z2 z3 => k2 _ _ _ _ _ _ _ z1 z2 z3
    exact ⟨t, p, q.go (hr _ svs Ω Φ Ξ h) ⟨fun z o' _ _ => k1 _ _ _ _ _ _ z o' Dq.non, fun z o' _ r' => k1 _ _ _ _ _ _ z o' r', fun z _ _ _ => z.elim, fun z _ _ _ => z.elim⟩ o (start_ok r)⟩
/-- .. for a def that lets nothing out -/
theorem fn_ok0 {as : (Addr → Prop) → AS} (Fu : Fun K x qual st f fd) (S : FnScope N ps (defScope st)) (hT : Ari T ps.length)
    (hb : ∀ (cdv : Value) (A : Around) (outer : List Env) (s : Shared) (H : Hp) (E : XK) (G : Gn), A.guards = some [] → Room k (A.deeper (envOfC qual (defScope st) s.heap.objs.size f cdv)) →
      JSs (cxOf CX0 P w K mg base N qual (defScope st) f cdv A outer s H E).nox G (defBody st) (as (fun p => G.H0 p = none)))
    (hr : ∀ Fr svs Ω Φ Ξ, T svs Ω Φ Ξ → as Fr { nx := fun _ Ω => Φ (.d .none) Ω, rt := Φ } (startR N svs) Ω) : FnG P w K mg base CX0 (k + 1) f fd ps (spOf K T) :=
  fn_ok (as := fun Fr _ => as Fr) Fu S hT (fun cdv A outer s H E G Ξ h1 h2 h3 => by
    obtain ⟨t, p, q⟩ := hb cdv A outer s H E G h1 h2
    exact ⟨t, p.nox, ⟨fun {D ρ Ω} z {P F H σ D'} k o r => q.go z k o r⟩⟩) hr
theorem kargs (Fu : Fun K x qual st f fd) {ks : List Str} {n : Nat} {π : List Nat}
    (h : ∀ (kV doc pm : Value) (an : Option Addr) (cdv ct : Value) (us ws : List Value), us.length = n → ws.length = ks.length → bindArgs (PySem.W.fnOf x qual (defArgs st) (defBody st) (defScope st) .none kV doc pm an cdv ct) ⟨us, ks.zip ws⟩ = pure (ps.zip (π.map fun i => (us ++ ws).getD i .none))) : KArg K fd ps ks n π := by
  obtain ⟨oc, od, kV, doc, pm, an, cdv, ct, osl, rfl, lk, hcd⟩ := Fu.ex
  exact fun s us ws _ h1 h2 => .of_eq (h kV doc pm an cdv ct us ws h1 h2)
end
end Z
/-! Zr: list(reversed(xs)); xs[::-1]. -/
namespace Z
open PySem PySem.Spec PyProof.Rows L2
section
variable {prog : Program} {w : World} {A : Around} {E : Value → Shared → Prop} {s : Shared}
theorem rev_fill {R : Result → Shared → Prop} {it l S : Addr} {items : Array Value} {res : Value} {c₀ : Nat} (hh : A.handled = none) (hit : s.heap.IsRevIter it l ((items.size : Int) - 1)) (hl : s.heap.IsList l items) (hne : l ≠ it) (hn : items.size ≤ sizeLine)
    (hSi : S ≠ it) (hSl : S ≠ l) (hS : s.heap.get? S = some { cls := .type "list", data := .seq #[] c₀ })
    (hR : ∀ h' tk acc c', (∀ b o, b ≠ S → b ≠ it → s.heap.get? b = some o → h'.get? b = some o) → h'.get? S = some { cls := .type "list", dict := none, data := .seq acc c', slots := #[] } →
      ItemsOf (fun i v => items[items.size - 1 - i]? = some v) acc items.size → R (.ok (.ret res)) { s with heap := h', toks := tk }) :
    wpAny (model prog w) A.in1 (Builtin.List.listExtendWith (.ref S) (.ref it) res)
      (fun fin s' => match fin with | .done f => R (.ok f) s' | .again c' => c'.quiet = true ∧ codeAny (model prog w) A c' R s') (fun e s' => R (.error e) s') s := by
  have W := (Walks.listRev (prog := prog) (w := w) (A := A.in1) hh it l hne items).toS
  have hSf : S ∉ [it, l] := by
    intro z
    rcases List.mem_cons.mp z with q | q
    · exact hSi q
    · exact hSl (List.mem_singleton.mp q)
  have hT : s.TypeIs (.ref it) "list_reverseiterator" := hit.typeIs
  unfold Builtin.List.listExtendWith
  refine wpAny_bind (wpAny_typeOf hT ?_)
  have e1 : Builtin.List.listSameRef (.ref S) (.ref it) = false := by simp [Builtin.List.listSameRef, hSi]
  rw [if_neg (by rw [e1]; decide)]
  refine wpAny_bind (wpAny_pyIter_revIter hit (wpAny_bind (wpAny_holding ?_)))
  unfold Builtin.List.listLengthHint
  refine wpAny_bind (wpAny_specialOf hT RT.nolen_lri ?_)
  show wpAny _ _ (specialOf (Value.ref it) (Str.ofString "__length_hint__") >>= _) _ _ _
  refine wpAny_bind (wpAny_specialOf hT RT.hint_lri ?_)
  generalize hid : ("list_reverseiterator.__length_hint__" : String) = id0
  wp_delta
  rw [show splitId id0 = some ("list_reverseiterator", "__length_hint__") from by subst hid; decide +kernel]
  subst hid
  refine wpAny_bind (wpAny_isInstance (b := true) hT (by rw [isSubtype_type]; kernel_rfl) (wpAny_pure ?_))
  rw [if_neg (by decide)]
  have e0 : ((items.size : Nat) : Int) - 1 - ((0 : Nat) : Int) = (items.size : Int) - 1 := by omega
  refine wpAny_pure ⟨plainId_quiet F.plain_extend_loop _, codeAny_extend_loopS W hn S hSf res items.size 0 _ #[] c₀ rfl (Nat.zero_le _) ⟨Nat.zero_le _, by rw [e0]; exact hit, hl⟩ hS (ItemsOf.nil _) fun s' acc c' hm hS' hacc => ?_⟩
  rw [Moved.eq_with hm]
  refine hR s'.heap s'.toks acc c' (fun b o h1 h2 e => hm.heap b o (fun hmem => ?_) e) hS' hacc
  rcases List.mem_cons.mp hmem with q | q
  · exact h1 q
  · exact h2 (List.mem_singleton.mp q)
theorem call_list_revI {it l : Addr} {items : Array Value} {Q : Value → Shared → Prop} (hh : A.handled = none) (hit : s.heap.IsRevIter it l ((items.size : Int) - 1)) (hl : s.heap.IsList l items) (hne : l ≠ it) (hn : items.size ≤ sizeLine)
    (hQ : ∀ h' tk acc c', (∀ b o, b ≠ it → s.heap.get? b = some o → h'.get? b = some o) → h'.get? s.heap.objs.size = some { cls := .type "list", dict := none, data := .seq acc c', slots := #[] } →
      ItemsOf (fun i v => items[items.size - 1 - i]? = some v) acc items.size → Q (.ref s.heap.objs.size) { s with heap := h', toks := tk }) :
    wpAny (model prog w) A (PySem.call (.type "list") [.ref it]) Q E s := by
  refine callType_codes (Q₁ := fun obj s₁ => obj = .ref s.heap.objs.size ∧ s₁ = { s with heap := s.heap.push { cls := .type "list", data := .seq #[] } }) PySem.F.called_list (PySem.F.typeCall_list_1 _) PySem.F.entry_list_init
    (code_list_new _ ⟨rfl, rfl⟩) fun obj s₁ h₁ => ?_
  obtain ⟨rfl, rfl⟩ := h₁
  generalize hSz : s.heap.objs.size = S
  have hS : (s.heap.push { cls := .type "list", data := .seq #[] }).get? S = some { cls := .type "list", data := .seq #[] } := by rw [← hSz]; exact Heap.get?_push_size _ rfl
  obtain ⟨oi, hoi, _⟩ := id hit
  obtain ⟨ol, hol, _⟩ := id hl
  have hSi : S ≠ it := by rw [← hSz]; exact Nat.ne_of_gt (Heap.lt_size hoi)
  have hSl : S ≠ l := by rw [← hSz]; exact Nat.ne_of_gt (Heap.lt_size hol)
  refine ⟨⟨_, hS, rfl⟩, PySem.F.args_list_init_2 _ _, ?_⟩
  show wpAny _ _ (do let old ← Builtin.List.listItems (.ref S); Builtin.List.listUpdate (.ref S) (fun _ => #[]); letGo old.toList.reverse; Builtin.List.listExtendWith (.ref S) (.ref it) .none) _ _ _
  refine wpAny_bind ?_
  unfold Builtin.List.listItems
  refine wpAny_bind (wpAny_seqItems hS rfl (wpAny_pure ?_))
  refine wpAny_bind (m := Builtin.List.listUpdate (.ref S) (fun _ => #[])) ?_
  unfold Builtin.List.listUpdate
  refine wpAny_updateSeq hS rfl ?_
  have hS2 := Heap.get?_update_self (Obj.mapSeq (fun _ => (#[] : Array Value))) hS rfl
  have oth : ∀ b o, b ≠ S → s.heap.get? b = some o → ((s.heap.push { cls := .type "list", data := .seq #[] }).update S (Obj.mapSeq (fun _ => (#[] : Array Value)))).get? b = some o :=
    fun b o hb e => (Heap.get?_update_other _ _ (Ne.symm hb)).trans (Heap.get?_push_of_some _ e)
  refine wpAny_bind (wpAny_letGo ?_)
  refine rev_fill (A := A.in1) (c₀ := _) (items := items) (l := l) hh (hit.at fun o e => oth it o (Ne.symm hSi) e) ?_ hne hn hSi hSl hS2 (fun h' tk acc c' hk hS' hacc => ?_)
  · obtain ⟨ol, hol, hr⟩ := id hl
    exact ⟨ol, oth l ol (Ne.symm hSl) hol, hr⟩
  · rw [← hSz] at hS'
    refine ⟨rfl, ?_⟩
    have q := hQ h' tk acc c' (fun b o hb e => ?_) hS' hacc
    · rw [hSz] at q
      exact q
    · have hb2 : b ≠ S := by rw [← hSz]; exact Nat.ne_of_lt (Heap.lt_size e)
      exact hk b o hb2 hb (oth b o hb2 e)
end
section
variable {X : Cx} {G : Gn} {e : Expr} {aa : AE} {m : Mode}
/-- list(reversed(x)), x a list: a new list -/
def tLstRev (K : Frag) (te : TE) : TE := fun σ H Q => te σ H fun v H1 => ∃ (a : Addr) (xs : List V), v = .ref a ∧ SqL K H1 a xs ∧ ∀ q, H1 q = none → Q (.ref q) (upd H1 q (.lst xs.reverse))
theorem pe_lstRev {te : TE} {p p2 pos pos2 : Pos} (hc : X.calm = true) (hg : Gl X "list") (hm : X.mg "list" = none) (hg2 : Gl X "reversed") (hm2 : X.mg "reversed" = none) (he : PE X e te)
    (hs : starEach [e] X.env = (false, eval e X.env) :: starEach [] X.env)
    (hs2 : starEach [.Call (.Name "reversed" p2) [e] [] pos2] X.env = (false, eval (.Call (.Name "reversed" p2) [e] [] pos2) X.env) :: starEach [] X.env) :
    PE X (.Call (.Name "list" p) [.Call (.Name "reversed" p2) [e] [] pos2] [] pos) (tLstRev X.K te) := by
  refine ⟨fun pins s σ H Q I h => Call_ (ld_blt I hg hm boot_list (PyProof.Rows.callWith_type1 (args_cons (Call_ (ld_blt I hg2 hm2 PyProof.Rows.boot_reversed (PyProof.Rows.callWith_type1 (args_cons (thn (he.run pins s σ H _ I h) fun u s1 ⟨v, H1, I1, r1, q1⟩ => args_nil ?_) hs) hs rfl))) hs2) hs2 rfl))⟩
  obtain ⟨a, xs, rfl, hq, q⟩ := q1
  obtain rfl : u = Value.ref a := r1
  obtain ⟨its, rv, p', hz⟩ := I1.list hq
  refine call_reversed_list p'.isList (args_nil ?_)
  generalize hro : revObj a ((its.toArray.size : Int) - 1) = ro
  have k0 : ∀ b o, s1.heap.get? b = some o → (s1.heap.push ro).get? b = some o := fun b o z => Heap.get?_push_of_some _ z
  have I2 : Inv X pins σ H1 { s1 with heap := s1.heap.push ro } := I1.kept (t' := s1.toks) k0
  obtain ⟨f0, f1, f2, f3, f4, f5⟩ := I1.fpOk (H' := H1) (b := s1.heap.objs.size) (Nat.le_refl _) (I1.hok.fresh (Nat.le_refl _))
  have hl := p'.isList
  obtain ⟨ol, hol, _⟩ := id hl
  have hne : a ≠ s1.heap.objs.size := Nat.ne_of_lt (Heap.lt_size hol)
  have hn : its.toArray.size ≤ sizeLine := by rw [List.size_toArray, ← rv.length]; exact hz
  have hri : ({ s1 with heap := s1.heap.push ro } : Shared).heap.IsRevIter s1.heap.objs.size a ((its.toArray.size : Int) - 1) := by
    rw [← hro]
    exact ⟨_, Heap.get?_push_size _ rfl, rfl, rfl⟩
  have hDn : H1 (s1.heap.push ro).objs.size = none := I1.hok.fresh (by rw [Heap.size_push]; exact Nat.le_succ _)
  have hne2 : (s1.heap.push ro).objs.size ≠ s1.heap.objs.size := by rw [Heap.size_push]; exact Nat.succ_ne_self _
  refine call_list_revI (s := { s1 with heap := s1.heap.push ro }) (I1.ok.hd hc) hri (hl.push _) hne hn fun h' tk acc c' hk hS hi => ?_
  have hlen : xs.reverse.length ≤ sizeLine := by rw [List.length_reverse]; exact hz
  have hv : Vals xs.reverse acc.toList := RT.vals_rev rv hi
  have I3 := I2.laid (a := (s1.heap.push ro).objs.size) (o := .lst xs.reverse) (t' := tk) (h' := (s1.heap.push ro).push { cls := .type "list", data := .seq acc c' }) (fun b o z => Heap.get?_push_of_some _ z) (Nat.le_refl _)
    (show ObjOk X.prog X.w _ _ _ (.lst xs.reverse) from ⟨hlen, acc.toList, c', hv, by rw [Array.toArray_toList]; exact Heap.get?_push_size _ rfl⟩)
  have I4 := I3.turned (t' := tk) (h' := h') (it := s1.heap.objs.size) (fun b o hb z => ?_) (by rw [upd_ne (Ne.symm hne2)]; exact f0) f1 f3 f4 f5
  · exact ⟨.ref (s1.heap.push ro).objs.size, _, I4, rfl, q _ hDn⟩
  · by_cases hbS : b = (s1.heap.push ro).objs.size
    · rcases Heap.get?_push_cases z with ⟨_, e⟩ | z2
      · rw [hbS, e]
        exact hS
      · exact hk b o hb z2
    · rcases Heap.get?_push_cases z with ⟨e, _⟩ | z2
      · exact absurd e hbS
      · exact hk b o hb z2
def aLstRev (m : Mode) (a : AE) : AE := fun ρ Ω Φ => a ρ Ω fun x Ω' => rdS x Ω' fun ds => (match x with | .d (.tuple _) => False | _ => True) ∧ newL m ds.reverse Ω' Φ
theorem je_listRev {p p2 pos pos2 : Pos} (hm : MOk (enX X G) m) (hc : X.calm = true) (hg : Gl X "list") (hml : X.mg "list" = none) (hg2 : Gl X "reversed") (hm2 : X.mg "reversed" = none) (ha : JE X G e aa)
    (hs : starEach [e] X.env = (false, eval e X.env) :: starEach [] X.env := by rfl)
    (hs2 : starEach [.Call (.Name "reversed" p2) [e] [] pos2] X.env = (false, eval (.Call (.Name "reversed" p2) [e] [] pos2) X.env) :: starEach [] X.env := by rfl) :
    JE X G (.Call (.Name "list" p) [.Call (.Name "reversed" p2) [e] [] pos2] [] pos) (aLstRev m aa) := by
  obtain ⟨t, h1, h2⟩ := ha
  refine ⟨_, pe_lstRev hc hg hml hg2 hm2 h1 hs hs2, ⟨fun {ρ Ω Φ} h {P F H σ Q} o rp k => h2.go h o rp fun {v sv Ω1 F1 H1} q o1 s1 r1 => ?_⟩⟩
  obtain ⟨a, vs, ds, rfl, hs, da, q⟩ := rdL_of_S q o1 r1
  exact ⟨a, vs, rfl, hs, fun p hp => newL_ok hm o1 (dqa_rev da) q (fun q2 o2 s2 r2 => k q2 o2 (s1.trans s2) r2) hp⟩
end
end Z
/-! Zw: the law's end, for a def that is only called where no repr is under way. -/
namespace Z
open PySem PySem.Spec PyProof.Rows L2
section
variable {P : Program} {w : World} {K : Frag} {mg mb : Str → Option Value} {k : Nat} {fa a : Addr} {fd : FuncData} {x : Str} {sp : Sp} {s : Shared} {vs : List Value} {ns : List Int}
/-- what the law's call must come to -/
abbrev WellDone (s0 : Shared) : Except Value Flow → Shared → Prop := fun r s' => r = .ok (.ret (.bool true)) ∧ OldK s0.heap s'.heap ∧ s'.os = s0.os ∧ AllBare s'.gens
/-- .. from a heap of tracked objects in which at most the script lies -/
theorem lawG_in {H : Hp} (kin : K.In s.heap) (gns : s.heap.Ns mainGlobals mg) (bns : s.heap.Ns builtinsNs mb) (bok : ∀ y : Str, y ≠ "__name__" → mb y = bootBuiltins y) (nol : s.heap.NoLimit) (ng : s.gens = #[])
    (obj : s.heap.get? a = some { cls := .type "list", data := .seq vs.toArray }) (rm : Room k callerA)
    (F : ∀ b : Heap, K.In b → b.Ns mainGlobals mg → FnG P w K mg b CX0 k fa fd [x] sp) (bd : ∀ (z : Shared) (u : Value), BindsTo z fd ⟨[u], []⟩ [(x, u)])
    (only : Only H) (hs : sp [.ref a] H (fun v _ => v = .bl true) fun _ _ _ => False) (hok : HOk P w H s.heap) (just : ∀ b, H b ≠ none → b = a) (out : H a ≠ none → K.lookup a = none) :
    codeAny (model P w) callerA (.call (.ref fa) ⟨[.ref a], []⟩) (WellDone s) s := by
  have isA : ∀ {b : Addr} {u : HO}, H b = some u → b = a := fun {b u} e => just b fun z => by rw [e] at z; cases z
  have free : ∀ {b : Addr} {o : Obj} {es : Array DictEntry} {ep : Nat}, s.heap.get? b = some o → o.data = .dict es ep → H b = none := by
    intro b o es ep e d
    rcases hb : H b with _ | u
    · rfl
    · cases isA hb
      cases obj.symm.trans e
      exact absurd (show Data.seq vs.toArray _ = Data.dict es ep from d) (fun z => by cases z)
  have ns' : ∀ {b : Addr} {m : Str → Option Value}, s.heap.Ns b m → (hidT s.heap H).Ns b m := by
    rintro b m ⟨o, es, ep, e, d, r⟩
    exact ⟨o, es, ep, hidT_get e (free e d), d, r⟩
  have kin' : K.In (hidT s.heap H) := by
    intro b o e
    refine hidT_get (kin b o e) ?_
    rcases hb : H b with _ | u
    · rfl
    · cases isA hb
      have z := out (by rw [hb]; exact fun q => by cases q)
      cases z.symm.trans e
  obtain ⟨mc, c1, c2⟩ := nol
  have env : Env0 P w K mg (hidT s.heap H) callerA [] s H :=
    ⟨rfl, ⟨kin', ns' gns, ⟨mb, ns' bns, bok⟩, ⟨mc, ns' c1, c2⟩⟩, fun _ _ e => of_hidT e, Nat.le_of_eq (hidT_size _ _), trivial, fun _ z => absurd (show _ ∈ ([] : List Addr) from z) (by simp), hok, .of_eq ng⟩
  refine codeAny_mono ((F _ kin' (ns' gns)).go callerA [] s H ⟨[.ref a], []⟩ [.ref a] [.ref a] _ _ rm rfl env (bd s (.ref a)) (.cons rfl .nil) hs) fun r s' got => ?_
  match r, got with
  | .error _, got => exact got.elim
  | .ok .next, got => exact got.elim
  | .ok .brk, got => exact got.elim
  | .ok .cont, got => exact got.elim
  | .ok (.ret u), got =>
    obtain ⟨v, H', os, bare, un, hok', ru, rfl⟩ := got
    cases (show u = Value.bool true from ru)
    refine ⟨rfl, OldK.of_keep fun b o e => ?_, os, bare⟩
    rcases hb : H b with _ | u
    · exact un.keep b o e hb (fun z => absurd (show b ∈ ([] : List Addr) from z) (by simp)) (by simp)
    · rcases only b with z | ⟨ob, xs, z⟩
      · cases z.symm.trans hb
      · have g1 := (hok b _ z).1
        cases g1.symm.trans e
        exact (hok' b _ (un.frzs b _ _ z)).1
theorem lawG (kin : K.In s.heap) (gns : s.heap.Ns mainGlobals mg) (bns : s.heap.Ns builtinsNs mb) (bok : ∀ y : Str, y ≠ "__name__" → mb y = bootBuiltins y) (nol : s.heap.NoLimit) (ng : s.gens = #[])
    (obj : s.heap.get? a = some { cls := .type "list", data := .seq vs.toArray }) (hi : IntsAre vs ns) (hl : ns.length ≤ sizeLine) (rm : Room k callerA)
    (F : ∀ b : Heap, K.In b → b.Ns mainGlobals mg → FnG P w K mg b CX0 k fa fd [x] sp) (bd : ∀ (z : Shared) (u : Value), BindsTo z fd ⟨[u], []⟩ [(x, u)])
    (hsp : ∀ H : Hp, Only H → SqL K H a (ns.map V.int) → sp [.ref a] H (fun v _ => v = .bl true) fun _ _ _ => False) :
    codeAny (model P w) callerA (.call (.ref fa) ⟨[.ref a], []⟩) (WellDone s) s := by
  have ru := vals_ints hi
  rcases hk : K.lookup a with _ | o
  · -- the script stands outside the written part
    let o : Obj := { cls := .type "list", data := .seq vs.toArray }
    let H : Hp := fun b => if b = a then some (.frz o (.lst (ns.map V.int))) else none
    have at_ : H a = some (.frz o (.lst (ns.map V.int))) := if_pos rfl
    have off : ∀ {b}, b ≠ a → H b = none := fun h => if_neg h
    have only : Only H := fun b => by
      by_cases e : b = a
      · subst e; exact .inr ⟨_, _, at_⟩
      · exact .inl (off e)
    refine lawG_in (H := H) kin gns bns bok nol ng obj rm F bd only (hsp H only (.inl (.inr ⟨o, at_⟩))) (fun b u z => ?_) (fun b z => Classical.byContradiction fun e => z (off e)) fun _ => hk
    by_cases e : b = a
    · subst e
      cases at_.symm.trans z
      exact ⟨obj, by rw [List.length_map]; exact hl, vs, _, ru, obj⟩
    · cases (off e).symm.trans z
  · have e := kin a o hk
    cases obj.symm.trans e
    have only : Only fun _ => none := fun _ => .inl rfl
    refine lawG_in (H := fun _ => none) kin gns bns bok nol ng obj rm F bd only (hsp _ only (.inr ⟨_, vs.toArray, _, hk, rfl, rfl, rfl, by rw [List.size_toArray, hi.length]; exact hl, by simpa using ru⟩)) (fun b u z => ?_) (fun b z => absurd rfl z) fun z => absurd rfl z
    cases (show (none : Option HO) = some u from z)
end
/-- the script: a list of ints, of at most n, each of at most 2^20 bits -/
def ScrOk (n : Nat) (ns : List Int) : Prop := ns.length ≤ n ∧ ∀ z ∈ ns, Builtin.Int.intBits z ≤ 1048576
theorem dqa_ofInts {K : Frag} {F : Hp} : ∀ ns : List Int, DqAll K F (ns.map V.int) (ns.map PyData.int)
  | [] => .nil
  | n :: r => .cons (.int n) (dqa_ofInts r)
theorem ok_start {K : Frag} {H : Hp} : Ok ⟨⟨H, H, fun _ => none⟩, K⟩ (fun _ => none) H H [] :=
  ⟨Same.refl _, fun _ _ z => (by cases z), fun _ z => absurd z (by simp), fun _ z => absurd rfl z, Same.refl H, fun _ h1 h2 => absurd h2 h1, fun _ e => e, Same.refl H, fun _ z => absurd z (by simp), .nil⟩
/-- what the law promises: at a script of at most n ints, True -/
inductive LawC (n : Nat) : Con where
  | mk {ns : List Int} {Φ : PhiE} {Ξ : XA} : ScrOk n ns → (∀ Ω, Φ (.d (.bool true)) Ω) → LawC n [.l (ns.map PyData.int)] [] Φ Ξ
theorem LawC.ari {n : Nat} : Ari (LawC n) 1 := by rintro _ _ _ _ ⟨_, _⟩; rfl
/-- THE END -/
theorem walk {l : PySem.W.OpenLaw} {n k : Nat} {q : Program} {loose : List Str} {XP : (Str → Option Value) → Heap → Prop} {YP : World → Heap → Prop} {d : DefRec} {K : Params → Frag} {x : Str}
    (hn : l.most = some n) (hdf : d.params.defaults = []) (in_ : ∀ (w : World) (h : Heap), YP w h → (K w.params).In h) (hr : Room k callerA) (hz : n ≤ sizeLine)
    (F : ∀ (w : World) (mg : Str → Option Value) (fa : Addr) (h : Heap), (K w.params).In h → h.Ns mainGlobals mg → mg d.name = some (.ref fa) →
      ∃ fd : FuncData, (∀ (s : Shared) (v : Value), BindsTo s fd ⟨[v], []⟩ [(x, v)]) ∧ ∀ b : Heap, (K w.params).In b → b.Ns mainGlobals mg → FnG l.prog w (K w.params) mg b CX0 k fa fd [x] (spOf (K w.params) (LawC n))) :
    PySem.W.WalkO q loose XP YP l.row.toRowW d [] fun f vs => PySem.call f vs := by
  refine Att.attach_callB hn hdf fun w _ s mg mb fa _ _ _ _ a vs ns G Y _ _ _ nm obj iv len bits ng => ?_
  have kin := in_ w _ Y
  obtain ⟨fd, bd, f⟩ := F w mg fa _ kin G.T.g nm
  exact lawG kin G.T.g G.T.b G.T.builtins G.T.nolimit ng obj iv (Nat.le_trans len hz) hr f bd fun H _ hs =>
    ⟨_, H, [], [.l (ns.map PyData.int)], fun x _ => x = .d (.bool true), fun _ _ => False, ok_start, .cons ⟨a, _, rfl, hs, dqa_ofInts ns⟩ .nil, .mk ⟨len, bits⟩ fun _ => rfl,
      fun v sv Ω' P' F' H' e o' r => (by subst e; exact dqb r), fun _ _ _ _ _ _ _ z => z.elim⟩
end Z
/-! Z8: raise, try .. except .. as, what is asked of an exception in hand. -/
namespace Z
open PySem PySem.Spec PyProof.Rows L2
/-! ### C() -/
section
variable {X : Cx} {C : Addr} {bmB : List Value} {B newId initId : String} {x : Str} {p pos : Pos}
theorem mk_own0 (F : ExcBaseFacts B newId initId bmB) (q : PySem.W.excIn X.K C bmB newId = true) (gC : X.mg x = some (.ref C)) (kC : PySem.W.keepIn X.K (.ref C) = true) (r : Raises X (.ref C)) (hg : Gl X x) (db : (x == ("__debug__" : Str)) = false := by decide) :
    L2N.PMk X (.Call (.Name x p) [] [] pos) fun _ H Q => Q (.ref C) none H := by
  intro pins s σ H Q I h
  refine wpAny_Call_Name_kw (ld_glob I hg gC (PySem.W.callWith_K0 I.kIn kC ?_) db)
  obtain ⟨_, _, _, _, _, _, _, _, _, _, _, _, _, _, _, _, _, hC, hN, hni, T⟩ := exc_obj I.kIn q
  exact wpAny_call_exc_subT F T hC hN hni (fun h' e hm => L2N.mk_of I hm r h (I.hok.gone hm.new)) (Nat.zero_le _)
end
/-! ### raise -/
section
variable {X : Cx} {G : Gn} {e : Expr} {pos : Pos} {C : Addr} {W : WX} {Ξ : Rho → XA}
theorem noTakes {X : Cx} : L2N.Takes X (fun _ _ _ _ => False) := by
  rintro u s' ⟨_, _, _, _, _, _, _, _, _, _, _, _, _, _, _, _, w⟩
  exact w.elim
def aRaise (Ξ : Rho → XA) (c : Value) : AS := fun _ ρ Ω => Ξ ρ (c, none) Ω
theorem js_raise (hc : X.calm = true) (tk : L2N.Takes X W) (hW : XOk X G (WE W) Ξ) (mk : L2N.PMk X e fun _ H Q => Q (.ref C) none H) : JS X G (.Raise (some e) none pos) (aRaise Ξ (.ref C)) :=
  ⟨_, L2N.ps_raise hc tk mk, ⟨fun {D ρ Ω} h {P F H σ D'} _ o rp => hW h o rp ⟨rfl, trivial⟩⟩⟩
end
/-! ### try .. except C as n -/
def aTry (i : Nat) (c : Value) (ab : (Rho → XA) → AS) (su : Addr → AS) : AS := fun D ρ Ω =>
  ab (fun ρ' x Ω' => x = (c, none) ∧ ∀ a, su a { D with nx := fun ρ2 Ω2 => D.nx (ρ2.set i none) Ω2, bk := fun ρ2 Ω2 => D.bk (ρ2.set i none) Ω2, ct := fun ρ2 Ω2 => D.ct (ρ2.set i none) Ω2 } (ρ'.set i (some (.r (.ref a)))) Ω') D ρ Ω
section
variable {X : Cx} {G : Gn} {x n : Str} {cls c : Value} {i : Nat} {body suite : List Stmt} {b₀ : Stmt} {np pos pos' : Pos} {ab : (Rho → XA) → AS} {su : Addr → AS}
theorem js_tryAs (hs : X.stack = X.env :: X.outer) (hf : X.env.frame = some X.env.locals) (hN : X.N.Nodup) (hi : X.N[i]? = some n) (hln : X.env.kindOf n = some .local) (hc : Names X x c) (hx : PySem.W.exmOne X.K cls c = some true)
    (hb : ∀ (G' : Gn) (Ξ : Rho → XA) (W : WX) (pn : List (Addr × Obj)) (xe : Value → Shared → Prop), (∀ a, G'.H0 a = none → G.H0 a = none) → XOk X G' (WE W) Ξ → L2N.Takes (X.tr pn xe) W → PassesOwn (model X.prog X.w) X.A X.env xe → JSs (X.tr pn xe) G' body (ab Ξ))
    (hsu : ∀ (a : Addr) (oe : Obj) (pn : List (Addr × Obj)), L2N.Zn cls none oe → (∃ vs, oe.data = .fields vs) → JSs (X.suite a ((a, oe) :: pn)) G (b₀ :: suite) (su a)) :
    JS X G (.Try body [.ExceptHandler (some (.Name x np)) (some n) (b₀ :: suite) pos'] [] [] pos) (aTry i cls ab su) := by
  refine ⟨_, L2N.ps_try_as (i := i) (Wout := fun _ _ _ _ => False)
    (tb := fun W D σ H => ∃ (G' : Gn) (Ξ : Rho → XA) (hg : ∀ a, G'.H0 a = none → G.H0 a = none) (hx : XOk X G' (WE W) Ξ), ∀ pn xe (tk : L2N.Takes (X.tr pn xe) W) (po : PassesOwn (model X.prog X.w) X.A X.env xe), Classical.choose (hb G' Ξ W pn xe hg hx tk po) D σ H)
    (ts := fun a cl d D σ H => cl = cls ∧ d = none ∧ ∀ oe pn (hz : L2N.Zn cls none oe) (hf : ∃ vs, oe.data = .fields vs), Classical.choose (hsu a oe pn hz hf) D σ H)
    hs hf hN hi hln hc noTakes (fun W pn xe tk po => ⟨fun pins s σ H D I h => ?_⟩) (fun a oe cl d pn hz hf => ⟨fun pins s σ H D I h => ?_⟩), ⟨fun {D ρ Ω} h {P F H σ D'} k o rp => ?_⟩⟩
  · obtain ⟨G', Ξ, hg, hx, h⟩ := h
    exact (Classical.choose_spec (hb G' Ξ W pn xe hg hx tk po)).1.run pins s σ H D I (h pn xe tk po)
  · obtain ⟨rfl, rfl, h⟩ := h
    exact (Classical.choose_spec (hsu a oe pn hz hf)).1.run pins s σ H D I (h oe pn hz hf)
  · have hg : ∀ a, H a = none → G.H0 a = none := fun a e => o.dm a e
    have hX : XOk X ⟨F, H, P⟩ (WE (wAs X.K c i (fun a cl d D σ H => cl = cls ∧ d = none ∧ ∀ oe pn (hz : L2N.Zn cls none oe) (hf : ∃ vs, oe.data = .fields vs), Classical.choose (hsu a oe pn hz hf) D σ H) (fun _ _ _ _ => False) D'))
        (fun ρ' x Ω' => x = (cls, none) ∧ ∀ a, su a { D with nx := fun ρ2 Ω2 => D.nx (ρ2.set i none) Ω2, bk := fun ρ2 Ω2 => D.bk (ρ2.set i none) Ω2, ct := fun ρ2 Ω2 => D.ct (ρ2.set i none) Ω2 } (ρ'.set i (some (.r (.ref a)))) Ω') := by
      intro σ1 ρ1 y Ω1 P1 F1 H1 cl d hy o1 rp1 rx
      obtain ⟨rfl, hy⟩ := hy
      have s1 : Same F F1 := o1.f0
      have o2 := o.leave o1
      have dn : d = none := by
        cases d with
        | none => rfl
        | some _ => exact rx.2.elim
      refine ⟨true, by rw [rx.1]; exact hx, fun _ a _ => ⟨rx.1, dn, fun oe pn hz hf => ?_⟩, fun z => by cases z⟩
      exact (Classical.choose_spec (hsu a oe pn hz hf)).2.go (hy a)
        ⟨fun q o' s' r => k.nx q o' (s1.trans s') (pr_set (R := RpS X.K _) (x := none) (y := none) trivial i r), fun q o' s' r => k.rt q o' (s1.trans s') r, fun q o' s' r => k.bk q o' (s1.trans s') (pr_set (R := RpS X.K _) (x := none) (y := none) trivial i r), fun q o' s' r => k.ct q o' (s1.trans s') (pr_set (R := RpS X.K _) (x := none) (y := none) trivial i r)⟩ o2
        (pr_set (R := RpS X.K _) (y := some (SV.r (.ref a))) ⟨V.ref a, rfl, rfl⟩ i rp1)
    exact ⟨⟨F, H, P⟩, _, hg, hX, fun pn xe tk po => (Classical.choose_spec (hb ⟨F, H, P⟩ _ _ pn xe hg hX tk po)).2.go h
      ⟨fun q o' s' r => k.nx q (o.leave o') s' r, fun q o' s' r => k.rt q (o.leave o') s' r, fun q o' s' r => k.bk q (o.leave o') s' r, fun q o' s' r => k.ct q (o.leave o') s' r⟩ o.enter rp⟩
end
/-! ### isinstance(e, C), e the exception in hand -/
def acIsE (a : Addr) (cv : V) (b : Bool) : AC := fun xs Ω Φ => match xs with
  | [.r (.ref a'), .r c] => a' = a ∧ c = cv ∧ Φ (.d (.bool b)) Ω
  | _ => False
section
variable {X : Cx} {G : Gn} {D a : Addr} {oe : Obj} {cv : V} {b : Bool} {cw : Value}
theorem jc_isE (hp : (a, oe) ∈ X.pn) (C : ExcC X.K D) (hz : L2N.Zn (.ref D) none oe) (hf : ∃ vs, oe.data = .fields vs) (hv : ∀ u, RelV cv u → u = cw) (hk : PySem.W.kitOne X.K (.ref D) cw = some b) : JC X G (.builtin "isinstance") (acIsE a cv b) := by
  refine ⟨fun xs H Q => xs = [.ref a, cv] ∧ Q (.bl b) H, fun pins s σ H xs us Q I r h => ?_, ⟨fun {svs Ω Φ} h {P F H vs Q} o r k => ?_⟩⟩
  · obtain ⟨rfl, q⟩ := h
    obtain ⟨u, w, rfl, ru, rw_⟩ : ∃ u w, us = [u, w] ∧ RelV (.ref a) u ∧ RelV cv w := by
      cases r with
      | cons h1 r =>
        cases r with
        | cons h2 r => cases r; exact ⟨_, _, rfl, h1, h2⟩
    obtain rfl : u = Value.ref a := ru
    obtain rfl := hv _ rw_
    have there := (I.pin (a, oe) (List.mem_append_left _ hp)).1
    obtain ⟨vs, hd⟩ := hf
    have J : PySem.W.InstAt s.heap a oe D none := by
      obtain ⟨c0, d0, t0, l0⟩ := oe
      obtain ⟨z1, z2, -⟩ := hz
      cases (show c0 = _ from z1)
      cases (show d0 = _ from z2)
      cases (show t0 = _ from hd)
      exact ⟨there, rfl, rfl, trivial⟩
    exact PySem.W.kia_one (PySem.W.handS_kitx_exc C.hg C.hk C.hs C.hd C.ha C.hn C.ht C.hm) I.kIn J hk (fun z => by cases z) fun tk => ⟨.bl b, H, I.kept (t' := tk) fun _ _ z => z, rfl, q⟩
  · unfold acIsE at h
    split at h
    · obtain ⟨rfl, rfl, h⟩ := h
      obtain ⟨v, w, rfl, r1, r2⟩ := pr2 r
      cases (show v = _ from r1)
      cases (show w = _ from r2)
      exact ⟨rfl, k h o (Same.refl F) (.bl _)⟩
    · exact h.elim
end
/-! ### a def that is called with the exception in hand -/
inductive IsC (a : Addr) (c : Bool) : Con where
  | mk {Ω : Om} {Φ : PhiE} {Ξ : XA} : Φ (.d (.bool c)) Ω → IsC a c [.r (.ref a)] Ω Φ Ξ
structure FnE (P : Program) (w : World) (K : Frag) (mg : Str → Option Value) (base : Heap) (D : Addr) (k : Nat) (f : Addr) (fd : FuncData) (ps : List Str) (c : Bool) : Prop where
  one : ps.length = 1
  go : ∀ (A : Around) (outer : List Env) (s : Shared) (H : Hp) (args : Args) (Q : VK) (E : XK) (p : Addr × Obj), L2H.RoomH k A → A.guards = some [] → L2H.Hot1 A p → L2H.PinOk outer H s p → L2N.Zn (.ref D) none p.2 → Env0 P w K mg base A outer s H → BindsTo s fd args (ps.zip [.ref p.1]) →
    spOf K (IsC p.1 c) [.ref p.1] H Q E → codeAny (model P w) A (.call (.ref f) args) (CR CX0 outer P w H s Q E) s
section
variable {P : Program} {w : World} {K : Frag} {mg : Str → Option Value} {base : Heap} {D : Addr} {k : Nat} {f : Addr} {fd : FuncData} {ps N : List Str} {c : Bool} {x qual : Str} {st : Stmt} {as : Addr → AS}
theorem fnE_of (Fu : Fun K x qual st f fd) (S : FnScope N ps (defScope st)) (h1 : ps.length = 1)
    (hb : ∀ (cdv : Value) (A : Around) (outer : List Env) (s : Shared) (H : Hp) (E : XK) (G : Gn) (p : Addr × Obj), A.guards = some [] → L2H.Hot1 A p → L2N.Zn (.ref D) none p.2 → L2H.RoomH k (A.deeper (envOfC qual (defScope st) s.heap.objs.size f cdv)) →
      JSs (L2H.cxH CX0 P w K mg base N qual (defScope st) f cdv A outer s H E p) G (defBody st) (as p.1))
    (hw : ∀ (a : Addr) (Ω : Om) (Φ : PhiE), Φ (.d (.bool c)) Ω → as a { nx := fun _ Ω => Φ (.d .none) Ω, rt := Φ } (startR N [.r (.ref a)]) Ω) : FnE P w K mg base D (k + 1) f fd ps c := by
  obtain ⟨oc, od, kV, doc, pm, an, cdv, ct, osl, rfl, lk, hcd⟩ := Fu.ex
  refine ⟨h1, fun A outer s H args Q E p hr hgd hot hpin hz e0 hbd hsp => ?_⟩
  have old := fun b o e => (e0.bs b o e).1
  have kin : K.In s.heap := e0.mod.kin.keeps old
  have nol : s.heap.NoLimit := e0.mod.nolimit.keeps old
  have kinds : ∀ y ∈ ps.zip [Value.ref p.1], (defScope st).names.lookup y.1 = some .local ∨ ((defScope st).names.lookup y.1 = some .cell ∧ ((cellsFrom (s.heap.objs.size + 1) (defScope st).names []).lookup y.1).isSome = true) := by
    rintro ⟨n, v⟩ hy
    exact (S.par n (List.of_mem_zip hy).1).elim .inl fun q => .inr ⟨q, PySem.W.cellsFrom_some _ _ _ (.inl q)⟩
  refine codeAny_call_function hr.depth (kin _ _ lk) rfl S.co S.gen rfl (PySem.W.codeRec_of kin hcd) (hbd _ _ _ _ (wpAny_newFunctionEnv_cells S.kind kinds fun env he s1 x => ?_))
  cases he
  refine ⟨nol.keeps x.toInCall.keep, codeAny_func ?_⟩
  obtain ⟨P0, F, Ω, svs, Φ, Ξ, o, r, h, k1, k2⟩ := hsp
  obtain ⟨hΦ⟩ := h
  obtain ⟨t, pt, sn⟩ := hb cdv A outer s H E ⟨F, H, P0⟩ p hgd hot hz (hr.deeper _)
  have rv : Vals [V.ref p.1] [Value.ref p.1] := .cons rfl .nil
  have I0 := L2H.inv_startH (CX := CX0) (P := P) (w := w) (mg := mg) (N := N) (E := E) (vs := [V.ref p.1]) S hpin e0 (by rw [h1]; rfl) rv x
  have q0 := sn.go (hw p.1 Ω Φ hΦ) (D' := { nx := fun _ H' => Q .non H', rt := Q }) ⟨fun z o' _ _ => k1 _ _ _ _ _ _ z o' Dq.non, fun z o' _ r' => k1 _ _ _ _ _ _ z o' r', fun z _ _ _ => z.elim, fun z _ _ _ => z.elim⟩ o (start_ok r)
  refine wpAny_mono (pt.run [] s1 _ H _ I0 q0) (fun fl s' hs => ?_) fun _ _ z => z
  cases fl with
  | ret u => obtain ⟨v, σ', H', J, rv, q⟩ := hs; exact ⟨v, H', J.os, J.bare, J.base, J.hok, rv, q⟩
  | next => obtain ⟨σ', H', J, q⟩ := hs; exact ⟨.non, H', J.os, J.bare, J.base, J.hok, rfl, q⟩
  | brk => obtain ⟨_, _, _, q⟩ := hs; exact q.elim
  | cont => obtain ⟨_, _, _, q⟩ := hs; exact q.elim
end
section
variable {X : Cx} {G : Gn} {D a : Addr} {oe : Obj} {k : Nat} {f : Addr} {fd : FuncData} {ps : List Str} {c : Bool} {x : Str} {e : Expr} {aa : AE} {p pos : Pos}
/-- f(e), e the exception that the suite holds -/
def aCallE (a : Addr) (c : Bool) (aa : AE) : AE := fun ρ Ω Φ => aa ρ Ω fun x Ω' => x = .r (.ref a) ∧ Φ (.d (.bool c)) Ω'
theorem je_callE (F : FnE X.prog X.w X.K X.mg X.base D k f fd ps c) (hr : L2H.RoomH k X.A) (hgd : X.A.guards = some []) (hot : L2H.Hot1 X.A (a, oe)) (hp : (a, oe) ∈ X.pn) (hz : L2N.Zn (.ref D) none oe) (hg : Gl X x) (hm : X.mg x = some (.ref f)) (hk : PySem.W.keepIn X.K (.ref f) = true)
    (hb : Binds X.K fd ps []) (ha : JE X G e aa) (hdb : (x == ("__debug__" : Str)) = false := by decide)
    (he : starEach [e] X.env = (false, eval e X.env) :: starEach [] X.env := by rfl) (hpl : (backTo pos (starEach [] X.env)).any (·.1) = false := by rfl) :
    JE X G (.Call (.Name x p) [e] [] pos) (aCallE a c aa) := by
  obtain ⟨t, h1, h2⟩ := ha
  refine ⟨fun σ H Q => t σ H fun v H1 => v = .ref a ∧ spOf X.K (IsC a c) [.ref a] H1 Q fun _ _ _ => False, ⟨fun pins s σ H Q I h => ?_⟩, ⟨fun {ρ Ω Φ} h {P F H σ Q} o rp k => ?_⟩⟩
  · refine wpAny_Call_Name_kw (ld_glob I hg hm (PySem.W.callWith_K (h₀ := X.base) I.ok.mod.kin hk ?_ he hpl) hdb)
    rw [he]
    refine Calls.spliced_cons (thn (h1.run pins s σ H _ I h) fun u s1 ⟨v, H1, I1, r, ev, q⟩ => ?_)
    refine Calls.spliced_nil ⟨I1.kIn, ?_⟩
    subst ev
    obtain rfl : u = Value.ref a := r
    have there := I1.pin (a, oe) (List.mem_append_left _ hp)
    have pin : L2H.PinOk X.stack H1 s1 (a, oe) := ⟨there.1, there.2.1, fun z => (List.mem_cons.mp (I1.stkSub a z)).elim there.2.2.1 there.2.2.2.1, there.2.2.2.2⟩
    refine wp_of_code (codeAny_mono (F.go X.A X.stack s1 H1 ⟨[.ref a], []⟩ Q _ (a, oe) hr hgd hot pin hz I1.env0 ?_ q) fun r s' hq => ?_)
    · have b := hb s1 [.ref a] I1.kIn (by rw [List.append_nil]; exact F.one.symm)
      rw [List.append_nil] at b
      exact b
    · match r, hq with
      | .error e, hq => exact hq.elim
      | .ok (.ret u), hq => exact I1.after hq
      | .ok .next, hq => exact hq
      | .ok .brk, hq => exact hq
      | .ok .cont, hq => exact hq
  · refine h2.go h o rp fun {v sv Ω1 F1 H1} q o1 s1 r1 => ?_
    obtain ⟨rfl, q⟩ := q
    cases (show v = _ from r1)
    exact ⟨rfl, _, F1, Ω1, _, Φ, fun _ _ => False, o1.enter, .cons (show Rp X.K F1 (V.ref a) (.r (.ref a)) from rfl) .nil, .mk q, fun v sv Ω' P' F' H' z o' r' => k z (o1.leave o') (s1.trans o'.f0) r', fun _ _ _ _ _ _ _ z => z.elim⟩
theorem hot_of {A : Around} {a : Addr} {oe : Obj} {cls : Value} {d : Option Addr} (hz : L2N.Zn cls d oe) (hf : ∃ vs, oe.data = .fields vs) (h : A.handled = some (.ref a)) : L2H.Hot1 A (a, oe) := by
  obtain ⟨vs, e⟩ := hf
  exact ⟨h, vs, e, hz.2.2 vs e⟩
end
/-! ### any(bs) with an exception in hand -/
section
variable {prog : Program} {w : World} {A : Around} {E : Value → Shared → Prop} {s : Shared}
theorem list_end_hot {it l x1 : Addr} {i : Nat} {items : Array Value} {Q : Option Value → Shared → Prop} (hot : HotX.HotAt A x1 s.heap) (ne : x1 ≠ it) (hit : s.heap.IsListIter it l i) (hl : s.heap.IsList l items) (hx : items[i]? = none)
    (k : ∀ h', (∀ b o, b ≠ it → s.heap.get? b = some o → h'.get? b = some o) → Q none { s with heap := h' }) : wpAny (model prog w) A (pyNext (.ref it)) Q E s := by
  obtain ⟨o, ho, _, hd⟩ := id hit
  obtain ⟨ol, hol, _, _, hdl⟩ := hl
  obtain ⟨hh, o1, vs1, g1, d1, c1⟩ := hot
  unfold pyNext
  refine wpAny_bind (wpAny_attempt (wpAny_callSpecial?_slot (name := Str.ofString "__next__") hit.typeIs slot_listiter_next (wpAny_call_entry slot_listiter_next hit.typeIs entry_listiter_next ?_ (args_listiter_next _))))
  show wpAny _ _ (field (.ref it) 0 >>= _) _ _ _
  refine wpAny_bind (wpAny_field ho hd (x := Value.ref l) rfl ?_)
  show wpAny _ _ (if (Value.ref l == Value.none) = true then _ else _) _ _ _
  rw [if_neg (by exact Bool.false_ne_true : ¬ ((Value.ref l == Value.none) = true))]
  show wpAny _ _ (field (.ref it) 1 >>= _) _ _ _
  refine wpAny_bind (wpAny_field ho hd (x := Value.int i 0) rfl ?_)
  show wpAny _ _ (seqItems? (.ref l) >>= _) _ _ _
  refine wpAny_bind (wpAny_seqItems hol hdl ?_)
  simp only [hx, Int.toNat_natCast]
  refine wpAny_bind (wpAny_rule (wpAny_bind (wpAny_setField ho hd (by simp) ?_)))
  show wpAny _ _ (newExc (.type "StopIteration") [] >>= _) _ _ (_ : Shared)
  refine wpAny_bind ?_
  simp only [newTuple, newExc]
  refine wpAny_bind (wpAny_newObj_type ?_ (by size_fits))
  refine wpAny_bind (m := firstArgMember _ _) (wpAny_of_eq (a := Value.none) (by first | rfl | (simp only [firstArgMember]; rfl)) (wpAny_newObj_type ?_ (by size_fits)))
  have g2 : (s.heap.update it (Obj.mapFields (·.setIfInBounds 0 Value.none))).get? x1 = some o1 := (Heap.get?_update_other _ _ (Ne.symm ne)).trans g1
  refine HotX.raiseNew_hot ⟨hh, o1, vs1, Heap.get?_push_of_some _ (Heap.get?_push_of_some _ g2), d1, c1⟩ (Nat.ne_of_lt (Heap.lt_size (Heap.get?_push_of_some _ g2))) (Heap.get?_push_size _ rfl) rfl (by first | (simp; done) | (simp; omega) | (simp only [Array.size_append]; simp; omega)) ?_
  refine wpAny_bind (wpAny_isInstance (T := "StopIteration") (b := true) ⟨_, Heap.get?_update_self _ (Heap.get?_push_size _ rfl) rfl, rfl⟩ isSubtype_stop (wpAny_pure (k _ fun b o hb e => ?_)))
  have g3 : (s.heap.update it (Obj.mapFields (·.setIfInBounds 0 Value.none))).get? b = some o := (Heap.get?_update_other _ _ (Ne.symm hb)).trans e
  rw [Heap.get?_update_other _ _ (Nat.ne_of_gt (Heap.lt_size (Heap.get?_push_of_some _ g3)))]
  exact Heap.get?_push_of_some _ (Heap.get?_push_of_some _ g3)
theorem walks_hot (I ax x1 : Addr) (h1 : ax ≠ I) (h2 : x1 ≠ I) (items : Array Value) : Walks prog w A I [I, ax, x1] [I] items.size (fun i v => items[i]? = some v) (fun i h => h.IsListIter I ax i ∧ h.IsList ax items ∧ HotX.HotAt A x1 h) where
  sub := fun b hb => by simp at hb; simp [hb]
  frame := fun i h h' st hk => ⟨st.1.at fun o e => hk I (by simp) o e, st.2.1.at fun o e => hk ax (by simp) o e, by
    obtain ⟨_, _, hh, o, vs, e, d, c⟩ := st
    exact ⟨hh, o, vs, hk x1 (by simp) o e, d, c⟩⟩
  item := fun i s Q E hi st hQ => by
    refine wpAny_pyNext_list_item st.1 st.2.1 (x := items[i]) (by simp [hi]) fun h' hit' hs' => ?_
    obtain ⟨_, _, hh, o, vs, e, d, c⟩ := st
    exact hQ _ h' s.toks (by simp [hi]) ⟨hit', (‹s.heap.IsList ax items›).extBut hs'.extBut h1, hh, o, vs, hs'.extBut x1 o h2 e, d, c⟩ fun b o hb e => hs'.extBut b o (fun z => hb (by simp [z])) e
  done := fun s Q E st hQ => list_end_hot st.2.2 h2 st.1 st.2.1 (by simp) fun h' he' => hQ h' s.toks fun b o hb e => he' b o (fun z => hb (by simp [z])) e
  self := fun _ _ _ _ st hQ => wpAny_pyIter_listiter st.1 hQ
end
section
variable {X : Cx} {G : Gn} {a : Addr} {oe : Obj}
theorem cr_anyH (hot : L2H.Hot1 X.A (a, oe)) (hp : (a, oe) ∈ X.pn) : CallR X (.builtin "any") (rAny X.K) := by
  intro pins s σ H vs us Q I r h
  obtain ⟨l, bs, rfl, hs, q⟩ := h
  obtain ⟨its, rv, hl, _⟩ := I.list hs
  rw [Vals.ref1 r]
  have hb := rv.bls
  have there := (I.pin (a, oe) (List.mem_append_left _ hp)).1
  obtain ⟨hh, fv, d, c⟩ := hot
  refine call_any_walk (iter_any hl.isList fun s₂ e2 st hne => ?_)
  subst e2
  have lt : a ≠ s.heap.objs.size := Nat.ne_of_lt (Heap.lt_size there)
  refine ⟨_, _, _, _, _, _, _, rfl, walks_hot (A := X.A.in1) _ l a hne lt its.toArray, ⟨st.1, st.2, hh, oe, fv, Heap.get?_push_of_some _ there, d, c⟩, truth_bools hb, fun h' tk hk => ⟨.bl _, H, I.kept fun b o eo => hk b o (fun z => ?_) (Heap.get?_push_of_some _ eo), ?_, q⟩⟩
  · cases List.mem_singleton.mp z
    exact absurd (Heap.lt_size eo) (Nat.lt_irrefl _)
  · show Value.bool _ = Value.bool _
    rw [← L2.any_range, hb, List.size_toArray, List.length_map]
theorem jc_anyH (hot : L2H.Hot1 X.A (a, oe)) (hp : (a, oe) ∈ X.pn) : JC X G (.builtin "any") (ac1 fAny) := by
  refine ⟨_, cr_anyH hot hp, ac1_ok fun {x Ω Φ} h {P F H v Q} o r k => ?_⟩
  obtain ⟨ns, h⟩ := h
  obtain ⟨l, vs, ds, rfl, hs, da, rfl, q⟩ := rdL_of_S h o r
  rw [dqa_bools da] at hs
  exact ⟨l, ns, rfl, hs, k q o (Same.refl F) (.bl _)⟩
end
end Z
namespace Z
open PySem PySem.Spec PyProof.Rows L2
theorem mok2 {G G' : Gn} {K : Frag} (hg : ∀ a, G'.H0 a = none → G.H0 a = none) : MOk ⟨G', K⟩ (some fun a => G.H0 a = none) := fun _ h a e => by cases h; exact hg a e
theorem xok_of {X : Cx} {G : Gn} {E : XK} {Ξ : XA} (hX : ∀ {x : XI} {Ω : Om} {P' F H : Hp} {cls : Value} {d : Option Addr}, Ξ x Ω → Ok ⟨G, X.K⟩ P' F H Ω → RpX X.K F H cls d x → E cls d H) : XOk X G (WE fun cls d _ H => E cls d H) (fun _ => Ξ) := fun h o _ r => hX h o r
theorem xokF {X : Cx} {G : Gn} : XOk X G (WE fun _ _ _ _ => False) xno := fun h => h.elim
theorem is_ref {a : Addr} : ∀ u, RelV (.ref a) u → u = Value.ref a := fun _ h => h
theorem is_ty {t : String} : ∀ u, RelV (.ty t) u → u = Value.type t := fun _ h => h
end Z
namespace Z
open PySem PySem.Spec PyProof.Rows L2
/-! ### a list of the def's own, read as data: from here on it never changes -/
def fzF (Fr : Addr → Prop) (k : PhiE) (x : SV) (Ω : Om) : Prop := match x with
  | .r (.ref p) => ∃ ds f, At Ω p (.lst ds) f ∧ Fr p ∧ ∃ Ω2, Cut Ω p Ω2 ∧ k (.d (.list ds)) Ω2
  | _ => False
def aFrz (Fr : Addr → Prop) (a : AE) : AE := fun ρ Ω Φ => a ρ Ω (fzF Fr Φ)
theorem je_frz {X : Cx} {G : Gn} {e : Expr} {aa : AE} (ha : JE X G e aa) : JE X G e (aFrz (fun p => G.H0 p = none) aa) := by
  obtain ⟨t, p1, q1⟩ := ha
  refine ⟨t, p1, ⟨fun {ρ Ω Φ} h {P F H σ Q} o rp k => q1.go h o rp fun {v sv Ω1 F1 H1} q o1 s1 r1 => ?_⟩⟩
  unfold fzF at q
  split at q
  · obtain ⟨ds, f, t, fr, Ω2, c, q⟩ := q
    cases (show v = _ from r1)
    obtain ⟨nF, _⟩ := o1.at_ t
    obtain ⟨vs, h1, h2⟩ := o1.lst t
    obtain ⟨c1, c2⟩ := c.addr o1.nd
    obtain ⟨o2, s2⟩ := o1.frz (c := .lst ds) h1 fr nF (o1.pd _ t.mem) c1 c2
    exact k q o2 (s1.trans s2) (Dq.lst upd_same (dqa_same s2 _ _ h2))
  · exact q.elim
end Z
/-! Z9: a < b < c, xs * n, xs[::-1], in; range(a, b, c), reversed, enumerate, zip as what is walked. -/
namespace Z
open PySem PySem.Spec PyProof.Rows L2
section
variable {X : Cx} {G : Gn} {e a b c : Expr} {aa ab ac : AE} {pos : Pos} {m : Mode} {op op' : CmpOp} {ar ar' : AR}
/-! ### chains -/
def aChain (ar ar' : AR) (a b c : AE) : AE := fun ρ Ω Φ => a ρ Ω fun x Ω1 => b ρ Ω1 fun y Ω2 => ar x y Ω2 fun z Ω3 => match z with
  | .d (.bool t) => br t (c ρ Ω3 fun w Ω4 => ar' y w Ω4 Φ) (Φ (.d (.bool false)) Ω3)
  | _ => False
theorem chain_ok {E : En} {ta tb tc : TE} {r r' : R2} (h1 : SnE E ta aa) (h2 : SnE E tb ab) (h3 : SnE E tc ac) (h4 : SnR E r ar) (h5 : SnR E r' ar') : SnE E (tChain r r' ta tb tc) (aChain ar ar' aa ab ac) := by
  refine ⟨fun {ρ Ω Φ} h {P F H σ Q} o rp k => h1.go h o rp fun {v1 x Ω1 F1 H1} q1 o1 s1 r1 => h2.go q1 o1 (rpe_same s1 rp) fun {v2 y Ω2 F2 H2} q2 o2 s2 r2 => h4.go q2 o2 (r1.same s2) r2 fun {v3 z Ω3 F3 H3} q3 o3 s3 r3 => ?_⟩
  have z3 := (s1.trans s2).trans s3
  dsimp only at q3
  split at q3
  · rename_i t
    replace q3 := br_out q3
    refine ⟨t, dqb r3, br_ite ?_⟩
    cases t
    · exact k q3 o3 z3 (.bl _)
    · exact h3.go q3 o3 (rpe_same z3 rp) fun q4 o4 s4 r4 => h5.go q4 o4 (r2.same (s3.trans s4)) r4 fun q5 o5 s5 r5 => k q5 o5 ((z3.trans s4).trans s5) r5
  · exact q3.elim
theorem je_chain (ho : JOp X G (compareOp op) ar) (ho' : JOp X G (compareOp op') ar') (ha : JE X G a aa) (hb : JE X G b ab) (hc : JE X G c ac) (hm : lastMarks [op, op'] [b, c] = false := by with_unfolding_all rfl) :
    JE X G (.Compare a [op, op'] [b, c] pos) (aChain ar ar' aa ab ac) := by
  obtain ⟨r, p1, q1⟩ := ho
  obtain ⟨r', p2, q2⟩ := ho'
  obtain ⟨_, p3, q3⟩ := ha
  obtain ⟨_, p4, q4⟩ := hb
  obtain ⟨_, p5, q5⟩ := hc
  exact ⟨_, pe_chain p1 p2 p3 p4 p5 hm, chain_ok q3 q4 q5 q1 q2⟩
theorem jt_chain (ho : JOp X G (compareOp op) ar) (ho' : JOp X G (compareOp op') ar') (ha : JE X G a aa) (hb : JE X G b ab) (hc : JE X G c ac) (hm : lastMarks [op, op'] [b, c] = false := by with_unfolding_all rfl) :
    JT X G (.Compare a [op, op'] [b, c] pos) (aB (aChain ar ar' aa ab ac)) := by
  obtain ⟨r, p1, q1⟩ := ho
  obtain ⟨r', p2, q2⟩ := ho'
  obtain ⟨_, p3, q3⟩ := ha
  obtain ⟨_, p4, q4⟩ := hb
  obtain ⟨_, p5, q5⟩ := hc
  refine ⟨_, pt_chain p1 p2 p3 p4 p5 hm, ⟨fun {ρ Ω Φ} h {P F H σ Q} o rp k => (chain_ok q3 q4 q5 q1 q2).go h o rp fun {v z Ω1 F1 H1} q o1 s1 r1 => ?_⟩⟩
  dsimp only at q
  split at q
  · exact ⟨_, dqb r1, k q o1 s1⟩
  · exact q.elim
/-! ### xs * n -/
def repD {α : Type} (xs : List α) (k : Int) : List α := (List.replicate k.toNat xs).flatten
theorem dqa_rep {K : Frag} {F : Hp} {vs : List V} {ds : List PyData} (h : DqAll K F vs ds) : ∀ n : Nat, DqAll K F (List.replicate n vs).flatten (List.replicate n ds).flatten
  | 0 => .nil
  | n + 1 => by
    rw [List.replicate_succ, List.replicate_succ, List.flatten_cons, List.flatten_cons]
    exact dqa_app h (dqa_rep h n)
def arMulA (m : Mode) : AR := fun x y Ω Φ => match x, y with
  | .d (.tuple ds), .d (.int k) => ds ≠ [] ∧ 2 ≤ k ∧ k ≤ 1000 ∧ ds.length ≤ 1000 ∧ Φ (.d (.tuple (repD ds k))) Ω
  | x, .d (.int k) => rdL x Ω fun ds => -(2 ^ 63) ≤ k ∧ k < 2 ^ 63 ∧ ds.length * k.toNat ≤ sizeLine ∧ newL m (repD ds k) Ω Φ
  | _, _ => False
theorem jo_mul (hm : MOk (enX X G) m) : JOp X G (binaryOp .Mult) (arMulA m) := by
  refine ⟨_, OpR.or op_repT op_rep, ⟨fun {x y Ω Φ} h {P F H vx vy Q} o r1 r2 k => ?_⟩⟩
  unfold arMulA at h
  split at h
  · obtain ⟨p, vs, rfl, hF, da⟩ := dqt r1
    cases dqi r2
    obtain ⟨h1, h2, h3, h4, h5⟩ := h
    refine Or.inl ⟨p, _, vs, rfl, rfl, sqt_same o.ex hF, fun z => h1 (by subst z; cases da; rfl), h2, h3, by rw [dqa_len da]; exact h4, fun q hq => ?_⟩
    obtain ⟨o1, s1⟩ := o.newF (o := .tup (List.replicate _ vs).flatten) hq
    exact k h5 o1 s1 (Dq.tup (Or.inl (Or.inl upd_same)) (dqa_same s1 _ _ (dqa_rep da _)))
  · rename_i k' _
    obtain ⟨p, vs, ds, rfl, hs, da, h1, h2, h3, h4⟩ := rdL_ok h o r1
    cases dqi r2
    refine Or.inr ⟨p, _, vs, rfl, rfl, hs, h1, h2, by rw [dqa_len da]; exact h3, fun q hq => newL_ok hm o (dqa_rep da _) h4 k hq⟩
  · exact h.elim
/-! ### xs[::-1] of a list -/
def aRevL (m : Mode) (a : AE) : AE := fun ρ Ω Φ => a ρ Ω fun x Ω' => rdS x Ω' fun ds => (match x with | .d (.tuple _) => False | _ => True) ∧ newL m ds.reverse Ω' Φ
theorem je_revL {k : Nat} {p1 p2 p3 : Pos} (hm : MOk (enX X G) m) (ha : JE X G e aa) : JE X G (.Subscript e (.Slice none none (some (.UnaryOp .USub (.Constant (.int 1) k p1) p2)) p3) pos) (aRevL m aa) := by
  obtain ⟨t, h1, h2⟩ := ha
  refine ⟨_, pe_revL h1, ⟨fun {ρ Ω Φ} h {P F H σ Q} o rp k => h2.go h o rp fun {v sv Ω1 F1 H1} q o1 s1 r1 => ?_⟩⟩
  obtain ⟨p, vs, ds, rfl, hs, da, q⟩ := rdL_of_S q o1 r1
  exact ⟨p, vs, rfl, hs, fun z hz => newL_ok hm o1 (dqa_rev da) q (fun q2 o2 s2 r2 => k q2 o2 (s1.trans s2) r2) hz⟩
end
/-! ### in -/
def flD : PyData → Bool
  | .none | .bool _ | .int _ | .str _ => true
  | _ => false
def eqD : PyData → PyData → Bool
  | .none, .none => true
  | .bool a, .bool b => a == b
  | .bool a, .int b => (if a then 1 else 0) == b
  | .int a, .bool b => a == (if b then 1 else 0)
  | .int a, .int b => a == b
  | .str a, .str b => a == b
  | _, _ => false
theorem fl_ok {K : Frag} {F : Hp} {v : V} {d : PyData} (h : Dq K F v d) (f : flD d = true) : flatV v = true := by
  cases h <;> first | rfl | cases f
theorem eq_ok {K : Frag} {F : Hp} {v w : V} {d e : PyData} (h : Dq K F v d) (h' : Dq K F w e) (f : flD d = true) (f' : flD e = true) : eqV v w = eqD d e := by
  cases h <;> cases h' <;> first | rfl | cases f | cases f'
theorem fls_ok {K : Frag} {F : Hp} : ∀ {vs : List V} {ds : List PyData}, DqAll K F vs ds → ds.all flD = true → vs.all flatV = true
  | _, _, .nil, _ => rfl
  | _, _, .cons r t, h => by
    rw [List.all_cons, Bool.and_eq_true] at h ⊢
    exact ⟨fl_ok r h.1, fls_ok t h.2⟩
theorem in_ok {K : Frag} {F : Hp} {v : V} {d : PyData} (r : Dq K F v d) (f : flD d = true) : ∀ {vs : List V} {ds : List PyData}, DqAll K F vs ds → ds.all flD = true → inV v vs = ds.any fun e => eqD e d
  | _, _, .nil, _ => rfl
  | _, _, .cons q t, h => by
    rw [List.all_cons, Bool.and_eq_true] at h
    show (eqV _ v || inV v _) = (eqD _ d || _)
    rw [eq_ok q r h.1 f, in_ok r f t h.2]
section
variable {X : Cx} {G : Gn}
def arInF (neg : Bool) : AR := fun x y Ω Φ => match x with
  | .d d => rdS y Ω fun ds => flD d = true ∧ ds.all flD = true ∧ Φ (.d (.bool (if neg then !(ds.any fun e => eqD e d) else ds.any fun e => eqD e d))) Ω
  | _ => False
abbrev arIn : AR := arInF false
abbrev arNotIn : AR := arInF true
theorem in_sn {K : Frag} {neg : Bool} {E : En} (hK : E.K = K) : SnR E (rIn K neg) (arInF neg) := by
  subst hK
  refine ⟨fun {x y Ω Φ} h {P F H vx vy Q} o r1 r2 k => ?_⟩
  unfold arInF at h
  split at h
  · obtain ⟨p, vs, ds, rfl, hs, da, f1, f2, h⟩ := rdS_ok h o r2
    refine ⟨p, vs, rfl, hs, fl_ok r1 f1, fls_ok da f2, ?_⟩
    rw [in_ok r1 f1 da f2]
    exact k h o (Same.refl F) (.bl _)
  · exact h.elim
theorem jo_in : JOp X G (compareOp .In) arIn := ⟨_, op_in_seq, in_sn rfl⟩
theorem jo_notin : JOp X G (compareOp .NotIn) arNotIn := ⟨_, op_notIn_seq, in_sn rfl⟩
end
/-! ### what is walked -/
section
variable {X : Cx} {G : Gn} {e e2 a b c tg : Expr} {aa ab : AE} {ta : AA} {pos : Pos}
/-- range(i, j, -1) -/
def rgB (lo : Int) (n : Nat) : List SV := (List.range n).map fun i => SV.d (.int (lo + (i : Nat) * -1))
theorem rgB_len {lo : Int} {n : Nat} : (rgB lo n).length = n := by unfold rgB; rw [List.length_map, List.length_range]
theorem rgB_get {lo : Int} {n i : Nat} {x : SV} (h : (rgB lo n)[i]? = some x) : x = .d (.int (lo + (i : Nat) * -1)) ∧ i < n := by
  have lt := (List.getElem?_eq_some_iff.mp h).1
  rw [rgB_len] at lt
  unfold rgB at h
  rw [List.getElem?_map, List.getElem?_range lt] at h
  cases h
  exact ⟨rfl, lt⟩
def aRng3 (t : AA) : AI := fun ρ Ω Φ => t ρ Ω fun xs Ω' => match xs with
  | [.d (.int i), .d (.int j), .d (.int c)] => c = -1 ∧ bd62 i ∧ bd62 j ∧ Φ (rgB i (i - j).toNat) kpT Ω'
  | _ => False
theorem itc_ok {E : En} {F0 : Hp} {lo : Int} {n : Nat} : ItOk E F0 (Itc lo (-1) n) (rgB lo n) kpT := by
  refine ⟨fun s o k hi => by rw [rgB_len] at hi; exact hi, fun {i P F H Ω x H' y} s o k yy e => ?_, fun s o k hi => by rw [rgB_len] at hi; exact hi⟩
  obtain ⟨rfl, rfl⟩ := yy
  obtain ⟨rfl, _⟩ := rgB_get e
  exact ⟨F, o, Same.refl F, .int _⟩
theorem ji_range3 {p : Pos} (hg : Gl X "range") (hm : X.mg "range" = none) (ha : JA X G [a, b, c] ta) (hs : starEach [a, b, c] X.env = (false, eval a X.env) :: starEach [b, c] X.env := by rfl) (hpl : (backTo pos (starEach [b, c] X.env)).any (·.1) = false := by rfl) :
    JI X G tg (.Call (.Name "range" p) [a, b, c] [] pos) (aRng3 ta) := by
  obtain ⟨t, h1, h2⟩ := ha
  refine ⟨_, pi_range3 hg hm h1 hs hpl, ⟨fun {ρ Ω Φ} h {P F H σ R} o rp k => h2.go h o rp fun {vs svs Ω1 F1 H1} q o1 s1 r1 => ?_⟩⟩
  split at q
  · obtain ⟨rfl, ⟨b1, b2⟩, ⟨b3, b4⟩, q⟩ := q
    cases r1 with
    | cons r r1 =>
      cases r1 with
      | cons r' r1 =>
        cases r1 with
        | cons r'' r1 =>
          cases r1
          cases dqi r
          cases dqi r'
          cases dqi r''
          exact ⟨_, _, _, _, rfl, RgC.neg b1 b2 b3 b4, k q o1 s1 itc_ok⟩
  · exact q.elim
/-- reversed(xs) of data -/
def aRevI (a : AE) : AI := fun ρ Ω Φ => a ρ Ω fun x Ω' => match x with
  | .d (.list ds) => Φ (ds.reverse.map SV.d) kpT Ω'
  | .d (.tuple ds) => Φ (ds.reverse.map SV.d) kpT Ω'
  | _ => False
theorem rev_at {α : Type} {xs : List α} {i : Nat} {y : α} (h : xs.reverse[i]? = some y) : xs[xs.length - 1 - i]? = some y ∧ i < xs.length := by
  have lt := (List.getElem?_eq_some_iff.mp h).1
  rw [List.length_reverse] at lt
  rw [List.getElem?_reverse lt] at h
  exact ⟨h, lt⟩
theorem ji_reversed {p : Pos} (hg : Gl X "reversed") (hm : X.mg "reversed" = none) (ha : JE X G e aa) (hs : starEach [e] X.env = (false, eval e X.env) :: starEach [] X.env := by rfl) : JI X G tg (.Call (.Name "reversed" p) [e] [] pos) (aRevI aa) := by
  obtain ⟨t, h1, h2⟩ := ha
  refine ⟨_, RT.pi_revA hg hm h1 hs, ⟨fun {ρ Ω Φ} h {P F H σ R} o rp k => h2.go h o rp fun {v sv Ω1 F1 H1} q o1 s1 r1 => ?_⟩⟩
  have fin : ∀ {vs : List V} {ds : List PyData}, DqAll X.K F1 vs ds → ∀ {i : Nat} {y : SV} {F' : Hp}, Same F1 F' → (ds.reverse.map SV.d)[i]? = some y → ∃ v, vs[vs.length - 1 - i]? = some v ∧ Rp X.K F' v y := by
    intro vs ds da i y F' s e
    rw [List.getElem?_map] at e
    cases ed : ds.reverse[i]? with
    | none => rw [ed] at e; cases e
    | some d =>
      rw [ed] at e
      cases e
      obtain ⟨g, _⟩ := rev_at ed
      obtain ⟨u, g1, g2⟩ := dqa_get (dqa_same s _ _ da) g
      rw [← dqa_len da] at g1
      exact ⟨u, g1, g2⟩
  dsimp only at q
  split at q
  · obtain ⟨p, vs, rfl, hF, da⟩ := dql r1
    refine ⟨p, vs, rfl, Or.inl ⟨SqL.of (o1.ex _ _ hF), k q o1 s1 ⟨fun {i P F H Ω} s o _ hi => ?_, fun {i P F H Ω x H' y} s o _ yy e => ?_, fun s o _ hi => ?_⟩⟩⟩
    · rw [List.length_map, List.length_reverse, ← dqa_len da] at hi
      exact ⟨hi, vs, _, SqL.of (o.ex _ _ (s _ _ hF)), List.getElem?_eq_getElem (by omega)⟩
    · obtain ⟨rfl, yy⟩ := yy
      obtain ⟨u, g1, g2⟩ := fin da s e
      have g3 := yy vs (SqL.of (o.ex _ _ (s _ _ hF)))
      rw [g1] at g3
      cases g3
      exact ⟨_, o, Same.refl _, g2⟩
    · rw [List.length_map, List.length_reverse, ← dqa_len da] at hi
      exact hi
  · obtain ⟨p, vs, rfl, hF, da⟩ := dqt r1
    refine ⟨p, vs, rfl, Or.inr ⟨sqt_same o1.ex hF, k q o1 s1 ⟨fun {i P F H Ω} s o _ hi => ?_, fun {i P F H Ω x H' y} s o _ yy e => ?_, fun s o _ hi => ?_⟩⟩⟩
    · rw [List.length_map, List.length_reverse, ← dqa_len da] at hi
      exact ⟨hi, vs, _, sqt_same o.ex (sqt_same s hF), List.getElem?_eq_getElem (by omega)⟩
    · obtain ⟨rfl, yy⟩ := yy
      obtain ⟨u, g1, g2⟩ := fin da s e
      have g3 := yy vs (sqt_same o.ex (sqt_same s hF))
      rw [g1] at g3
      cases g3
      exact ⟨_, o, Same.refl _, g2⟩
    · rw [List.length_map, List.length_reverse, ← dqa_len da] at hi
      exact hi
  · exact q.elim
/-- enumerate(xs) -/
def enD (ds : List PyData) : List SV := (List.range ds.length).map fun i => SV.d (.tuple [.int (i : Nat), ds.getD i .none])
theorem enD_len {ds : List PyData} : (enD ds).length = ds.length := by unfold enD; rw [List.length_map, List.length_range]
theorem enD_get {ds : List PyData} {i : Nat} {x : SV} (h : (enD ds)[i]? = some x) : ∃ d, ds[i]? = some d ∧ x = .d (.tuple [.int (i : Nat), d]) := by
  have lt := (List.getElem?_eq_some_iff.mp h).1
  rw [enD_len] at lt
  unfold enD at h
  rw [List.getElem?_map, List.getElem?_range lt] at h
  cases h
  exact ⟨ds[i], List.getElem?_eq_getElem lt, by show SV.d (.tuple [.int (i : Nat), ds.getD i .none]) = _; rw [List.getD_eq_getElem?_getD, List.getElem?_eq_getElem lt]; rfl⟩
theorem new_tup {E : En} {P F H : Hp} {Ω : Om} {T : Addr} {vs : List V} {ds : List PyData} (o : Ok E P F H Ω) (n : H T = none) (da : DqAll E.K F vs ds) : ∃ F', Ok E P F' (upd H T (.tup vs)) Ω ∧ Same F F' ∧ Rp E.K F' (.ref T) (.d (.tuple ds)) := by
  obtain ⟨o1, s1⟩ := o.newF (o := .tup vs) n
  exact ⟨_, o1, s1, Dq.tup (Or.inl (Or.inl upd_same)) (dqa_same s1 _ _ da)⟩
theorem ite_ok {E : En} {F0 : Hp} {p : Addr} {ds : List PyData} {Kp : Om → Prop}
    (h : ∀ {P F H : Hp} {Ω : Om}, Same F0 F → Ok E P F H Ω → Kp Ω → ∃ vs, SqL E.K H p vs ∧ DqAll E.K F vs ds) : ItOk E F0 (Ite E.K p) (enD ds) Kp := by
  refine ⟨fun s o k hi => ?_, fun s o k yy e => ?_, fun s o k hi => ?_⟩
  · obtain ⟨vs, h1, h2⟩ := h s o k
    rw [enD_len, ← dqa_len h2] at hi
    exact ⟨vs, _, h1, List.getElem?_eq_getElem hi⟩
  · obtain ⟨vs, h1, h2⟩ := h s o k
    obtain ⟨T, x, rfl, n, rfl, y2⟩ := yy
    obtain ⟨d, hd, rfl⟩ := enD_get e
    obtain ⟨u, g1, g2⟩ := dqa_get h2 hd
    have g3 := y2 vs h1
    rw [g1] at g3
    cases g3
    exact new_tup o n (.cons (.int _) (.cons g2 .nil))
  · obtain ⟨vs, h1, h2⟩ := h s o k
    rw [enD_len, ← dqa_len h2] at hi
    exact ⟨vs, h1, hi⟩
def aEnumerate (t : AA) : AI := fun ρ Ω Φ => t ρ Ω fun xs Ω' => match xs with
  | [.d (.list ds)] => Φ (enD ds) kpT Ω'
  | [.r (.ref p)] => ∃ ds f, At Ω' p (.lst ds) f ∧ Φ (enD ds) (kpAt p (.lst ds)) Ω'
  | _ => False
theorem ji_enumerate {p tpos : Pos} {elts : List Expr} {kk : Nat} (hg : Gl X "enumerate") (hm : X.mg "enumerate" = none) (ha : JA X G [e] ta) (hs : starEach [e] X.env = [(false, eval e X.env)] := by rfl) :
    JI X G (.Tuple elts kk tpos) (.Call (.Name "enumerate" p) [e] [] pos) (aEnumerate ta) := by
  obtain ⟨t, h1, h2⟩ := ha
  refine ⟨_, pi_enum hg hm h1 hs, ⟨fun {ρ Ω Φ} h {P F H σ R} o rp k => h2.go h o rp fun {vs svs Ω1 F1 H1} q o1 s1 r1 => ?_⟩⟩
  split at q
  · obtain ⟨v, rfl, r⟩ := pr1 r1
    obtain ⟨p, vs, rfl, hF, da⟩ := dql r
    exact ⟨p, vs, rfl, SqL.of (o1.ex _ _ hF), k q o1 s1 (ite_ok fun s o _ => ⟨vs, SqL.of (o.ex _ _ (s _ _ hF)), dqa_same s _ _ da⟩)⟩
  · obtain ⟨v, rfl, r⟩ := pr1 r1
    obtain ⟨ds, f, t, q⟩ := q
    cases (show v = _ from r)
    obtain ⟨vs, h3, h4⟩ := o1.lst t
    refine ⟨_, vs, rfl, SqL.of h3, k q o1 s1 (ite_ok fun s o kk => ?_)⟩
    obtain ⟨f', t'⟩ := kk
    obtain ⟨ws, h5, h6⟩ := o.lst t'
    exact ⟨ws, SqL.of h5, h6⟩
  · exact q.elim
/-- zip(xs, ys), both lists or both tuples -/
def zpD (ds es : List PyData) : List SV := (ds.zip es).map fun p => SV.d (.tuple [p.1, p.2])
theorem zpD_get {ds es : List PyData} {i : Nat} {x : SV} (h : (zpD ds es)[i]? = some x) : ∃ d e, ds[i]? = some d ∧ es[i]? = some e ∧ x = .d (.tuple [d, e]) := by
  unfold zpD at h
  rw [List.getElem?_map] at h
  cases z : (ds.zip es)[i]? with
  | none => rw [z] at h; cases h
  | some p =>
    rw [z] at h
    cases h
    have := List.getElem?_zip_eq_some.mp z
    exact ⟨p.1, p.2, this.1, this.2, rfl⟩
theorem zpD_len {ds es : List PyData} : (zpD ds es).length = min ds.length es.length := by unfold zpD; rw [List.length_map, List.length_zip]
def aZip (t : AA) : AI := fun ρ Ω Φ => t ρ Ω fun xs Ω' => match xs with
  | [.d (.list ds), .d (.list es)] => Φ (zpD ds es) kpT Ω'
  | [.d (.tuple ds), .d (.tuple es)] => Φ (zpD ds es) kpT Ω'
  | _ => False
theorem ji_zip {p tpos : Pos} {elts : List Expr} {kk : Nat} (hg : Gl X "zip") (hm : X.mg "zip" = none) (ha : JA X G [e, e2] ta) (hs : starEach [e, e2] X.env = (false, eval e X.env) :: starEach [e2] X.env := by rfl) (hpl : (backTo pos (starEach [e2] X.env)).any (·.1) = false := by rfl) :
    JI X G (.Tuple elts kk tpos) (.Call (.Name "zip" p) [e, e2] [] pos) (aZip ta) := by
  obtain ⟨t, h1, h2⟩ := ha
  refine ⟨_, RZ.pi_zipA hg hm h1 hs hpl, ⟨fun {ρ Ω Φ} h {P F H σ R} o rp k => h2.go h o rp fun {vs svs Ω1 F1 H1} q o1 s1 r1 => ?_⟩⟩
  split at q
  · obtain ⟨v, u, rfl, r, r'⟩ := pr2 r1
    obtain ⟨p, vs, rfl, hF, da⟩ := dql r
    obtain ⟨p', ws, rfl, hF', da'⟩ := dql r'
    refine ⟨p, p', vs, ws, rfl, Or.inl ⟨SqL.of (o1.ex _ _ hF), SqL.of (o1.ex _ _ hF'), k q o1 s1 ⟨fun {i P F H Ω} s o _ hi => ?_, fun {i P F H Ω x H' y} s o _ yy e => ?_, fun {i P F H Ω} s o _ hi => ?_⟩⟩⟩
    · rw [zpD_len, ← dqa_len da, ← dqa_len da'] at hi
      exact ⟨vs, ws, _, _, SqL.of (o.ex _ _ (s _ _ hF)), SqL.of (o.ex _ _ (s _ _ hF')), List.getElem?_eq_getElem (by omega), List.getElem?_eq_getElem (by omega)⟩
    · obtain ⟨T, x, y, rfl, n, rfl, y1, y2⟩ := yy
      obtain ⟨d, d', hd, hd', rfl⟩ := zpD_get e
      obtain ⟨u, g1, g2⟩ := dqa_get (dqa_same s _ _ da) hd
      obtain ⟨u', g1', g2'⟩ := dqa_get (dqa_same s _ _ da') hd'
      have g3 := y1 vs (SqL.of (o.ex _ _ (s _ _ hF)))
      have g3' := y2 ws (SqL.of (o.ex _ _ (s _ _ hF')))
      rw [g1] at g3
      rw [g1'] at g3'
      cases g3
      cases g3'
      exact new_tup o n (.cons g2 (.cons g2' .nil))
    · rw [zpD_len, ← dqa_len da, ← dqa_len da'] at hi
      exact ⟨vs, ws, SqL.of (o.ex _ _ (s _ _ hF)), SqL.of (o.ex _ _ (s _ _ hF')), by omega⟩
  · obtain ⟨v, u, rfl, r, r'⟩ := pr2 r1
    obtain ⟨p, vs, rfl, hF, da⟩ := dqt r
    obtain ⟨p', ws, rfl, hF', da'⟩ := dqt r'
    refine ⟨p, p', vs, ws, rfl, Or.inr ⟨sqt_same o1.ex hF, sqt_same o1.ex hF', k q o1 s1 ⟨fun {i P F H Ω} s o _ hi => ?_, fun {i P F H Ω x H' y} s o _ yy e => ?_, fun {i P F H Ω} s o _ hi => ?_⟩⟩⟩
    · rw [zpD_len, ← dqa_len da, ← dqa_len da'] at hi
      exact ⟨vs, ws, _, _, sqt_same o.ex (sqt_same s hF), sqt_same o.ex (sqt_same s hF'), List.getElem?_eq_getElem (by omega), List.getElem?_eq_getElem (by omega)⟩
    · obtain ⟨T, x, y, rfl, n, rfl, y1, y2⟩ := yy
      obtain ⟨d, d', hd, hd', rfl⟩ := zpD_get e
      obtain ⟨u, g1, g2⟩ := dqa_get (dqa_same s _ _ da) hd
      obtain ⟨u', g1', g2'⟩ := dqa_get (dqa_same s _ _ da') hd'
      have g3 := y1 vs (sqt_same o.ex (sqt_same s hF))
      have g3' := y2 ws (sqt_same o.ex (sqt_same s hF'))
      rw [g1] at g3
      rw [g1'] at g3'
      cases g3
      cases g3'
      exact new_tup o n (.cons g2 (.cons g2' .nil))
    · rw [zpD_len, ← dqa_len da, ← dqa_len da'] at hi
      exact ⟨vs, ws, sqt_same o.ex (sqt_same s hF), sqt_same o.ex (sqt_same s hF'), by omega⟩
  · exact q.elim
end
end Z
namespace Z
open PySem PySem.Spec PyProof.Rows L2
/-- f(e, ..), f a built-in that the module imported -/
theorem je_callGB {X : Cx} {G : Gn} {id : String} {ac : AC} {x : Str} {p pos : Pos} {e : Expr} {es : List Expr} {ta : AA} (hc : JC X G (.builtin id) ac) (hg : Gl X x) (hm : X.mg x = some (.builtin id)) (ha : JA X G (e :: es) ta) (hdb : (x == ("__debug__" : Str)) = false := by decide)
    (he : starEach (e :: es) X.env = (false, eval e X.env) :: starEach es X.env := by rfl) (hpl : (backTo pos (starEach es X.env)).any (·.1) = false := by rfl) : JE X G (.Call (.Name x p) (e :: es) [] pos) (aCB ac ta) := by
  obtain ⟨r, h1, h2⟩ := hc
  obtain ⟨t, h3, h4⟩ := ha
  refine ⟨tCB r t, ⟨fun pins s σ H Q I h => wpAny_Call_Name_kw (ld_glob I hg hm (PyProof.Rows.callWith_builtin1 (thn (h3.run pos pins s σ H _ I h) fun us s1 ⟨vs, H1, I1, r1, q1⟩ => h1 pins s1 σ H1 vs us Q I1 r1 q1) he hpl) hdb)⟩,
    ⟨fun {ρ Ω Φ} h {P F H σ Q} o rp k => h4.go h o rp fun q o1 s1 r1 => h2.go q o1 r1 fun q2 o2 s2 r2 => k q2 o2 (s1.trans s2) r2⟩⟩
end Z
namespace Z
open PySem PySem.Spec PyProof.Rows L2
/-- what a def that calls itself may lean on at depth n -/
def recC (c : Nat → Con) : Nat → Con
  | 0 => fun _ _ _ _ => False
  | n + 1 => c n
theorem fnG_no {P : Program} {w : World} {K : Frag} {mg : Str → Option Value} {base : Heap} {CX : CXT} {k : Nat} {f : Addr} {fd : FuncData} {ps : List Str} {c : Nat → Con} : FnG P w K mg base CX k f fd ps (spOf K (recC c 0)) :=
  ⟨fun _ _ _ _ ⟨_, _, _, _, _, _, _, _, h, _⟩ => h.elim, fun _ _ _ _ _ _ _ _ _ _ _ _ _ _ ⟨_, _, _, _, _, _, _, _, h, _⟩ => h.elim⟩
end Z
namespace Z
open PySem PySem.Spec PyProof.Rows L2
theorem js_setAt {X : Cx} {G : Gn} {e a b : Expr} {aa ab ac : AE} {pos spos : Pos} (h : ∀ {te ta tb : TE}, PE X e te → PE X a ta → PE X b tb → PS X (.Assign [.Subscript a b pos] e spos) (tAsg te (gSub ta tb rSetL))) (he : JE X G e aa) (ha : JE X G a ab) (hb : JE X G b ac) :
    JS X G (.Assign [.Subscript a b pos] e spos) (aSetIx aa ab ac) := js_setIx he ha hb (h := h)
end Z
/-! Zb: the bag of a law, as a pair of cells. -/
namespace Z
open PySem PySem.Spec PyProof.Rows L2
theorem At.app {Ω : Om} {a : Addr} {c : OC} {f : OC → Om} (t : At Ω a c f) : ∀ L : Om, At (L ++ Ω) a c (fun z => L ++ f z)
  | [] => t
  | p :: L => .there (At.app t L)
abbrev I (i : Int) : SV := .d (.int i)
abbrev T (ds : List PyData) : SV := .d (.tuple ds)
abbrev isD (is : List Int) : List PyData := is.map PyData.int
structure BagOk (n m : Int) (is : List Int) : Prop where
  n0 : 0 ≤ n
  m0 : 0 ≤ m
  m1 : m < 2147483647
  i0 : ∀ i ∈ is, 0 ≤ i
/-- the bag x: [cells, n, m] and its cells, behind L and before R -/
inductive Bag (x : SV) (L R : Om) : Om → Prop where
  | mk {b c : Addr} {n m : Int} {is : List Int} : x = .r (.ref b) → BagOk n m is → Bag x L R (L ++ (b, .lx [.r (.ref c), I n, I m]) :: (c, .lst (isD is)) :: R)
theorem Bag.push {x : SV} {L R Ω : Om} (h : Bag x L R Ω) (p : Addr × OC) : Bag x (p :: L) R (p :: Ω) := by
  obtain ⟨h1, h2⟩ := h
  exact .mk (L := p :: L) h1 h2
theorem Bag.pop {x : SV} {p : Addr × OC} {L R Ω : Om} (h : Bag x (p :: L) R Ω) : ∃ Ω2, Ω = p :: Ω2 ∧ Bag x L R Ω2 := by
  obtain ⟨h1, h2⟩ := h
  exact ⟨_, rfl, .mk h1 h2⟩
/-- _law_draw: anything below -/
inductive DrawC : Con where
  | mk {x : SV} {below : Int} {L R Ω : Om} {Φ : PhiE} {Ξ : XA} : Bag x L R Ω → 0 < below → below.natAbs.log2 < 9000 → (∀ r Ω', 0 ≤ r → r < below → Bag x L R Ω' → Φ (I r) Ω') → DrawC [x, I below] Ω Φ Ξ
theorem DrawC.ari : Ari DrawC 2 := by rintro _ _ _ _ ⟨_, _, _, _⟩; rfl
/-- _law_pick: any item of a list of data -/
inductive PickC : Con where
  | mk {x : SV} {ds : List PyData} {L R Ω : Om} {Φ : PhiE} {Ξ : XA} : Bag x L R Ω → ds ≠ [] → ds.length < 2 ^ 60 → (∀ d ∈ ds, ∀ Ω', Bag x L R Ω' → Φ (.d d) Ω') → PickC [x, .d (.list ds)] Ω Φ Ξ
theorem PickC.ari : Ari PickC 2 := by rintro _ _ _ _ ⟨_, _, _, _⟩; rfl
/-- _law_own_bag -/
inductive OwnC (k : Nat) : Con where
  | mk {ns : List Int} {Φ : PhiE} {Ξ : XA} : ScrOk k ns → (∀ x Ω, Bag x [] [] Ω → Φ x Ω) → OwnC k [.l (isD ns)] [] Φ Ξ
theorem OwnC.ari {k : Nat} : Ari (OwnC k) 1 := by rintro _ _ _ _ ⟨_, _⟩; rfl
/-- _law_great: anything below -/
inductive GreatC : Con where
  | mk {x : SV} {below : Int} {L R Ω : Om} {Φ : PhiE} {Ξ : XA} : Bag x L R Ω → 0 < below → below ≤ 10 ^ 60 → (∀ r Ω', 0 ≤ r → r < below → Bag x L R Ω' → Φ (I r) Ω') → GreatC [x, I below] Ω Φ Ξ
theorem GreatC.ari : Ari GreatC 2 := by rintro _ _ _ _ ⟨_, _, _, _⟩; rfl
end Z
/-! Zd: facts on data of ints: what can be told as text and compared. -/
namespace Z
open PySem PySem.Spec PyProof.Rows L2
theorem depthAll_isD : ∀ is : List Int, PyData.depthAll (isD is) ≤ 1
  | [] => by simp [isD, PyData.depthAll]
  | i :: r => by
    have h := depthAll_isD r
    simp only [isD, List.map_cons, PyData.depthAll, PyData.depth] at h ⊢
    omega
theorem depth_isD (is : List Int) : PyData.depth (.tuple (isD is)) ≤ 2 ∧ PyData.depth (.list (isD is)) ≤ 2 := by
  have h := depthAll_isD is
  simp only [PyData.depth]
  omega
theorem shaped_isD (is : List Int) : SeqAt.shaped (.tuple (isD is)) = true ∧ SeqAt.shaped (.list (isD is)) = true := by
  have h := depth_isD is
  have c := canLayAll_ints is
  unfold SeqAt.shaped
  simp only [PyData.canLay0, Bool.and_eq_true, decide_eq_true_eq]
  exact ⟨⟨c, by omega⟩, ⟨c, by omega⟩⟩
theorem showAll_isD : ∀ {is : List Int}, (∀ i ∈ is, i.natAbs.log2 < 1920) → PyData.showableAll (isD is) = true
  | [], _ => rfl
  | i :: r, h => by
    simp only [isD, List.map_cons, PyData.showableAll, PyData.showable, Bool.and_eq_true, decide_eq_true_eq]
    exact ⟨h i List.mem_cons_self, showAll_isD fun j hj => h j (List.mem_cons_of_mem _ hj)⟩
theorem noDict_isD : ∀ is : List Int, PyData.hasDictAll (isD is) = false
  | [] => rfl
  | i :: r => by
    simp only [isD, List.map_cons, PyData.hasDictAll, PyData.hasDict, Bool.false_or]
    exact noDict_isD r
theorem join_le {B : Nat} : ∀ {ts : List Str}, (∀ t ∈ ts, t.length ≤ B) → (Str.join ", " ts).length ≤ ts.length * (B + 2)
  | [], _ => Nat.zero_le _
  | [x], h => by
    have h1 := h x List.mem_cons_self
    show x.length ≤ 1 * (B + 2)
    omega
  | x :: y :: r, h => by
    have h1 := h x List.mem_cons_self
    have h2 := join_le (ts := y :: r) fun t ht => h t (List.mem_cons_of_mem _ ht)
    show (x ++ ", " ++ Str.join ", " (y :: r)).length ≤ _
    rw [strLen_append, strLen_append]
    have e : (Str.ofString ", ").length = 2 := by decide +kernel
    rw [e]
    simp only [List.length_cons] at h2 ⊢
    have e3 : (r.length + 1 + 1) * (B + 2) = (r.length + 1) * (B + 2) + (B + 2) := Nat.succ_mul _ _
    omega
theorem shown_isD : ∀ {is : List Int}, (∀ i ∈ is, i.natAbs.log2 < 1920) → (PyData.shownAll (isD is)).length = is.length ∧ ∀ t ∈ PyData.shownAll (isD is), t.length ≤ 1921
  | [], _ => ⟨rfl, fun _ h => by cases h⟩
  | i :: r, h => by
    obtain ⟨h1, h2⟩ := shown_isD (is := r) fun j hj => h j (List.mem_cons_of_mem _ hj)
    refine ⟨by simp only [isD, List.map_cons, PyData.shownAll, List.length_cons]; exact congrArg (· + 1) h1, fun t ht => ?_⟩
    simp only [isD, List.map_cons, PyData.shownAll, List.mem_cons] at ht
    rcases ht with rfl | ht
    · simp only [PyData.shown]; exact int_text_len_1921 (h i List.mem_cons_self)
    · exact h2 t ht
/-- what a law holds beside what is due -/
structure SameOk (d : PyData) : Prop where
  kind : (∃ i, d = .int i) ∨ (∃ ds, d = .tuple ds)
  sh : d.showable = true
  nd : d.hasDict = false
  dp : d.depth ≤ 60
  ln : d.shown.length ≤ sizeLine
  fm : SeqAt.shaped d = true
theorem SameOk.eq {d : PyData} (h : SameOk d) : PyData.eqv d d = true := SeqAt.eqv_refl d (SeqAt.canLay_of_shaped h.fm)
theorem log2_lt {n k : Nat} (h : n < 2 ^ k) (hk : 0 < k) : n.log2 < k := by
  rcases Nat.eq_zero_or_pos n with rfl | hn
  · simpa using hk
  · exact (Nat.log2_lt (by omega)).mpr h
theorem sameInt {i : Int} (h : i.natAbs < 2 ^ 1900) : SameOk (.int i) := by
  have h2 : i.natAbs.log2 < 1900 := log2_lt h (by decide)
  exact ⟨.inl ⟨_, rfl⟩, by simp only [PyData.showable, decide_eq_true_eq]; omega, rfl, by simp [PyData.depth], by
    have := int_text_len_1921 (i := i) (by omega)
    simp only [PyData.shown]
    have e : sizeLine = 16777216 := by decide
    omega, by unfold SeqAt.shaped; simp [PyData.canLay0, PyData.depth]⟩
theorem sameTup {is : List Int} (h : ∀ i ∈ is, i.natAbs < 2 ^ 1900) (hl : is.length ≤ 8000) : SameOk (.tuple (isD is)) := by
  have h2 : ∀ i ∈ is, i.natAbs.log2 < 1920 := fun i hi => by
    have := log2_lt (h i hi) (by decide)
    omega
  obtain ⟨a, b⟩ := shown_isD h2
  exact ⟨.inr ⟨_, rfl⟩, by simp only [PyData.showable]; exact showAll_isD h2, by simp only [PyData.hasDict]; exact noDict_isD is, by have := (depth_isD is).1; omega, by
    have e : sizeLine = 16777216 := by decide
    have j := join_le b
    simp only [PyData.shown, tupleText]
    rw [strLen_append, strLen_append]
    have e1 : (Str.ofString "(").length = 1 := by decide +kernel
    have e2 : (Str.ofString (if (PyData.shownAll (isD is)).length == 1 then ",)" else ")" : String)).length ≤ 2 := by split <;> decide +kernel
    rw [e1]
    rw [a] at j
    have : is.length * (1921 + 2) ≤ 8000 * (1921 + 2) := Nat.mul_le_mul_right _ hl
    omega, (shaped_isD is).1⟩
theorem eqvAll_isD : ∀ is js : List Int, PyData.eqvAll (isD is) (isD js) = decide (is = js)
  | [], [] => by simp [isD, PyData.eqvAll]
  | [], _ :: _ => by simp [isD, PyData.eqvAll]
  | _ :: _, [] => by simp [isD, PyData.eqvAll]
  | i :: r, j :: t => by
    have h := eqvAll_isD r t
    simp only [isD] at h
    simp only [isD, List.map_cons, PyData.eqvAll, PyData.eqv, h]
    by_cases e : i = j <;> by_cases e2 : r = t <;> simp [e, e2]
theorem eqv_nil (is : List Int) : PyData.eqv (.list (isD is)) (.list []) = decide (is = []) := by
  rw [PyData.eqv]
  exact eqvAll_isD is []
theorem shaped_nil : SeqAt.shaped (.list []) = true := (shaped_isD []).2
/-- _law_same: what is held beside itself -/
inductive SameC : Con where
  | mk {d : PyData} {Ω : Om} {Φ : PhiE} {Ξ : XA} : SameOk d → Φ (.d (.bool true)) Ω → SameC [.d d, .d d] Ω Φ Ξ
theorem SameC.ari : Ari SameC 2 := by rintro _ _ _ _ ⟨_, _⟩; rfl
/-! ### items -/
theorem erase_isD : ∀ (is : List Int) (k : Nat), (isD is).eraseIdx k = isD (is.eraseIdx k)
  | [], _ => rfl
  | _ :: _, 0 => rfl
  | i :: r, k + 1 => congrArg (PyData.int i :: ·) (erase_isD r k)
theorem app_isD (is js : List Int) : isD is ++ isD js = isD (is ++ js) := (List.map_append).symm
theorem dataOf_map : ∀ ds : List PyData, dataOf (ds.map SV.d) = some ds
  | [] => rfl
  | d :: r => by
    show (match dataOf (r.map SV.d) with | some ds => some (d :: ds) | none => none) = _
    rw [dataOf_map r]
theorem newX_d {m : Mode} {ds : List PyData} {Ω : Om} {Φ : PhiE} (h : newL m ds Ω Φ) : newX m (ds.map SV.d) Ω Φ := by
  cases m with
  | none =>
    show (match dataOf (ds.map SV.d) with | some ds => Φ (.d (.list ds)) Ω | none => False)
    rw [dataOf_map]
    exact h
  | some Fr =>
    intro a fa
    have e : mkL (ds.map SV.d) = .lst ds := by unfold mkL; rw [dataOf_map]
    rw [e]
    exact h a fa
theorem cutD_isD (is : List Int) (lo hi : Option Int) : cutD (isD is) lo hi = isD (cutD is lo hi) := by
  unfold cutD
  rw [isD, List.length_map, isD, List.map_take, List.map_drop]
theorem cutD_len {α : Type} (xs : List α) (lo hi : Option Int) : (cutD xs lo hi).length ≤ xs.length := by
  unfold cutD
  rw [List.length_take, List.length_drop]
  omega
theorem get_mapD {ds : List PyData} {i : Nat} {x : SV} (h : (ds.map SV.d)[i]? = some x) : ∃ d, ds[i]? = some d ∧ x = .d d := by
  rw [List.getElem?_map] at h
  cases e : ds[i]? with
  | none => rw [e] at h; cases h
  | some d => rw [e] at h; cases h; exact ⟨d, rfl, rfl⟩
theorem get_isD {is : List Int} {i : Nat} {x : SV} (h : ((isD is).map SV.d)[i]? = some x) : ∃ z, is[i]? = some z ∧ x = I z := by
  obtain ⟨d, h1, rfl⟩ := get_mapD h
  rw [isD, List.getElem?_map] at h1
  cases e : is[i]? with
  | none => rw [e] at h1; cases h1
  | some z => rw [e] at h1; cases h1; exact ⟨z, rfl, rfl⟩
theorem nat_bd {i : Int} {k : Nat} (h1 : -(2 ^ k) < i) (h2 : i < 2 ^ k) : i.natAbs < 2 ^ k := by
  have e : ((2 ^ k : Nat) : Int) = 2 ^ k := by simp
  omega
theorem cmul {i j : Int} (h1 : -(2 ^ 240) < i) (h2 : i < 2 ^ 240) (h3 : -(2 ^ 240) < j) (h4 : j < 2 ^ 240) : CMulX i j := mulx_ok (nat_bd h1 h2) (nat_bd h3 h4) (by decide)
theorem cdiv {i j : Int} (h1 : 0 < j) (h2 : j < 2 ^ 240) : CDivW i j := ⟨h1, by
  have := log2_lt (nat_bd (k := 240) (by omega) h2) (by decide)
  omega⟩
theorem bel {b : Int} (h0 : 0 < b) (h1 : b < 2 ^ 240) : b.natAbs.log2 < 9000 := (cdiv (i := 0) h0 h1).2
theorem atI_i {α : Type} {xs : List α} {i : Int} {a : α} (h0 : 0 ≤ i) (h : xs[i.toNat]? = some a) : atI xs i = some a := by
  have := atI_nat h
  rwa [Int.toNat_of_nonneg h0] at this
theorem atI_end {α : Type} {xs : List α} {a : α} (h : xs.getLast? = some a) : atI xs (-1) = some a := by
  obtain ⟨ys, rfl⟩ := List.getLast?_eq_some_iff.mp h
  exact atI_last ys a
end Z
/-! Zx: joins (a wish of one's own between two parts), tests that are settled, cuts of lists. -/
namespace Z
open PySem PySem.Spec PyProof.Rows L2
theorem br_d1 {p : Prop} [Decidable p] {A B : Prop} (h : p) (a : A) : br (decide p) A B := ⟨fun _ => a, fun e => absurd h (of_decide_eq_false e)⟩
theorem br_d0 {p : Prop} [Decidable p] {A B : Prop} (h : ¬p) (b : B) : br (decide p) A B := ⟨fun e => absurd (of_decide_eq_true e) h, fun _ => b⟩
theorem cut_to {α : Type} {xs : List α} {a : Int} (h0 : 0 ≤ a) : Z.cutD xs none (some a) = xs.take a.toNat := by
  unfold Z.cutD
  rw [HT.sIx_none, show (some a : Option Int) = some ((a.toNat : Nat) : Int) by rw [Int.toNat_of_nonneg h0], HT.sIx_nat, Nat.sub_zero, List.drop_zero]
  rcases Nat.le_total a.toNat xs.length with z | z
  · rw [Nat.min_eq_left z]
  · rw [Nat.min_eq_right z, List.take_of_length_le (Nat.le_refl _), List.take_of_length_le z]
theorem cut_from {α : Type} {xs : List α} {a : Int} (h0 : 0 ≤ a) : Z.cutD xs (some a) none = xs.drop a.toNat := by
  unfold Z.cutD
  rw [HT.sIx_none, show (some a : Option Int) = some ((a.toNat : Nat) : Int) by rw [Int.toNat_of_nonneg h0], HT.sIx_nat]
  rcases Nat.le_total a.toNat xs.length with z | z
  · rw [Nat.min_eq_left z, List.take_of_length_le (by rw [List.length_drop]; omega)]
  · rw [Nat.min_eq_right z, Nat.sub_self, List.take_zero, List.drop_of_length_le z]
theorem cut_to_isD {is : List Int} {a : Int} (h0 : 0 ≤ a) : Z.cutD (isD is) none (some a) = isD (is.take a.toNat) := by rw [cutD_isD, cut_to h0]
theorem cut_from_isD {is : List Int} {a : Int} (h0 : 0 ≤ a) : Z.cutD (isD is) (some a) none = isD (is.drop a.toNat) := by rw [cutD_isD, cut_from h0]
theorem len_isD (is : List Int) : (isD is).length = is.length := List.length_map ..
theorem get_isD' {is : List Int} {i : Nat} {x : PyData} (h : (isD is)[i]? = some x) : ∃ z, is[i]? = some z ∧ x = .int z := by
  rw [isD, List.getElem?_map] at h
  cases e : is[i]? with
  | none => rw [e] at h; cases h
  | some z => rw [e] at h; cases h; exact ⟨z, rfl, rfl⟩
theorem at_isD {is : List Int} {i : Int} {z : Int} (h0 : 0 ≤ i) (h : is[i.toNat]? = some z) : atI (isD is) i = some (.int z) := atI_i h0 (by rw [isD, List.getElem?_map, h]; rfl)
theorem last_isD {is : List Int} {z : Int} (h : is.getLast? = some z) : atI (isD is) (-1) = some (.int z) := atI_end (by rw [isD, List.getLast?_map, h]; rfl)
/-! ### joins -/
def aSeqE (s t : AS) : AS := fun D ρ Ω => ∃ M : Rho → Om → Prop, s { D with nx := M } ρ Ω ∧ ∀ ρ' Ω', M ρ' Ω' → t D ρ' Ω'
def aJoin (a : AE) : AE := fun ρ Ω Φ => ∃ M : PhiE, a ρ Ω M ∧ ∀ y Ω', M y Ω' → Φ y Ω'
def aJoinT (a : AT) : AT := fun ρ Ω Φ => ∃ M : Bool → Om → Prop, a ρ Ω M ∧ ∀ y Ω', M y Ω' → Φ y Ω'
section
variable {X : Cx} {G : Gn} {e : Expr} {aa : AE} {at_ : AT} {st : Stmt} {rest : List Stmt} {s t : AS}
theorem jss_cut (h1 : JS X G st s) (h2 : JSs X G rest t) : JSs X G (st :: rest) (aSeqE s t) := by
  obtain ⟨ts, p1, q1⟩ := h1
  obtain ⟨tu, p2, q2⟩ := h2
  exact ⟨_, pss_cons p1 p2, ⟨fun {D ρ Ω} ⟨M, h, h'⟩ {P F H σ D'} k o rp => q1.go h (D' := { D' with nx := tu D' }) ⟨fun q o z rp => q2.go (h' _ _ q) (k.up z) o rp, k.rt, k.bk, k.ct⟩ o rp⟩⟩
theorem je_join (h : JE X G e aa) : JE X G e (aJoin aa) := by
  obtain ⟨te, p, q⟩ := h
  exact ⟨te, p, ⟨fun {ρ Ω Φ} ⟨M, h, h'⟩ {P F H σ Q} o rp k => q.go h o rp fun {v sv Ω' F' H'} z o z2 r => k (h' _ _ z) o z2 r⟩⟩
theorem jt_join (h : JT X G e at_) : JT X G e (aJoinT at_) := by
  obtain ⟨te, p, q⟩ := h
  exact ⟨te, p, ⟨fun {ρ Ω Φ} ⟨M, h, h'⟩ {P F H σ Q} o rp k => q.go h o rp fun {b Ω' F' H'} z o z2 => k (h' _ _ z) o z2⟩⟩
end
end Z
/-! Zy: isinstance of an exception in hand and a tuple of classes; a pick out of a list or a tuple. -/
namespace Z
open PySem PySem.Spec PyProof.Rows L2
/-! ### isinstance(e, (C, ..)), e the exception in hand -/
def PAC (X : Cx) (es : List Expr) (vs : List V) : Prop := ∃ te, PA X es te ∧ ∀ σ H Q, Q vs H → te σ H Q
section
variable {X : Cx} {G : Gn} {e : Expr} {es : List Expr} {v : V} {vs : List V} {pos : Pos}
theorem pac_nil : PAC X [] [] := ⟨_, pa_nil, fun σ H Q h => h⟩
theorem pac_cons (h : PE X e (tC v)) (h2 : PAC X es vs) (hs : starEach (e :: es) X.env = (false, eval e X.env) :: starEach es X.env := by rfl) : PAC X (e :: es) (v :: vs) := by
  obtain ⟨te, p, q⟩ := h2
  exact ⟨_, pa_cons h p hs, fun σ H Q h => q _ _ _ h⟩
def rIsET (K : PySem.W.Frag) (D a : Addr) (b : Bool) : List V → Hp → VK → Prop := fun xs H Q => ∃ (tp : Addr) (cs : List V) (us : List Value), xs = [.ref a, .ref tp] ∧ H tp = some (.tup cs) ∧ Paired ClsV cs us ∧ PySem.W.kitAny K (.ref D) us = some b ∧ Q (.bl b) H
variable {D a : Addr} {oe : Obj} {b : Bool}
theorem cr_isET (hp : (a, oe) ∈ X.pn) (C : ExcC X.K D) (hz : L2N.Zn (.ref D) none oe) (hf : ∃ vs, oe.data = .fields vs) : CallR X (.builtin "isinstance") (rIsET X.K D a b) := by
  intro pins s σ H xs us Q I r h
  obtain ⟨tp, cs, ws, rfl, hT, hc, hk, q⟩ := h
  obtain ⟨u1, u2, rfl, r1, r2⟩ := vals2 r
  cases (show u1 = Value.ref a from r1)
  cases (show u2 = Value.ref tp from r2)
  obtain ⟨_, its, rv, o, h1, h2, n, h3⟩ := (show ObjOk X.prog X.w H s.heap tp (.tup cs) from I.hok tp _ hT)
  have e3 := ClsV.all hc rv
  subst e3
  obtain ⟨oc, od, dt, sl⟩ := o
  simp only at h2 h3
  subst h2 h3
  have there := (I.pin (a, oe) (List.mem_append_left _ hp)).1
  obtain ⟨vs, hd⟩ := hf
  have J : PySem.W.InstAt s.heap a oe D none := by
    obtain ⟨c0, d0, t0, l0⟩ := oe
    obtain ⟨z1, z2, -⟩ := hz
    cases (show c0 = _ from z1)
    cases (show d0 = _ from z2)
    cases (show t0 = _ from hd)
    exact ⟨there, rfl, rfl, trivial⟩
  exact PySem.W.kia_tup (PySem.W.handS_kitx_exc C.hg C.hk C.hs C.hd C.ha C.hn C.ht C.hm) I.kIn J h1 hk (fun z => by cases z) fun tk => ⟨.bl b, H, I.kept (t' := tk) fun _ _ z => z, rfl, q⟩
def aIsET (a : Addr) (b : Bool) (aa : AE) : AE := fun ρ Ω Φ => aa ρ Ω fun x Ω' => x = .r (.ref a) ∧ Φ (.d (.bool b)) Ω'
theorem je_isET {aa : AE} {us : List Value} {p p2 : Pos} {x1} (hp : (a, oe) ∈ X.pn) (C : ExcC X.K D) (hz : L2N.Zn (.ref D) none oe) (hf : ∃ vs, oe.data = .fields vs) (hg : Gl X "isinstance") (hm : X.mg "isinstance" = none) (ha : JE X G e aa)
    (hes : PAC X es vs) (hl : vs.length ≤ sizeLine) (hc : Paired ClsV vs us) (hk : PySem.W.kitAny X.K (.ref D) us = some b)
    (hs1 : starEach [e, .Tuple es x1 p2] X.env = (false, eval e X.env) :: starEach [.Tuple es x1 p2] X.env := by rfl) (hs2 : starEach [.Tuple es x1 p2] X.env = (false, eval (.Tuple es x1 p2) X.env) :: starEach [] X.env := by rfl)
    (hpl : (backTo pos (starEach [.Tuple es x1 p2] X.env)).any (·.1) = false := by rfl) : JE X G (.Call (.Name "isinstance" p) [e, .Tuple es x1 p2] [] pos) (aIsET a b aa) := by
  obtain ⟨te, h1, h2⟩ := ha
  obtain ⟨tt, h3, h4⟩ := hes
  refine ⟨_, pe_callB (cr_isET (b := b) hp C hz hf) hg hm (by decide +kernel) (pa_cons h1 (pa_cons (pe_tup h3) pa_nil hs2) hs1) (by decide) (by decide) hs1 hpl, ⟨fun {ρ Ω Φ} h {P F H σ Q} o rp k => ?_⟩⟩
  refine h2.go h o rp fun {v sv Ω1 F1 H1} q o1 s1 r1 => ?_
  obtain ⟨rfl, q⟩ := q
  cases (show v = _ from r1)
  refine h4 _ _ _ ⟨hl, fun t ht => ?_⟩
  obtain ⟨o2, -⟩ := (⟨o1.newO (o := .tup vs) (c := .raw (.tup vs)) ht rfl, trivial⟩ : _ ∧ True)
  exact ⟨t, _, _, rfl, upd_same, hc, hk, k q (o2.sub (List.sublist_cons_self ..)) s1 (.bl _)⟩
end
/-! ### a pick out of a list or a tuple -/
inductive Pick2 : Con where
  | lst {x : SV} {ds : List PyData} {L R Ω : Om} {Φ : PhiE} {Ξ : XA} : Bag x L R Ω → ds ≠ [] → ds.length < 2 ^ 60 → (∀ d ∈ ds, ∀ Ω', Bag x L R Ω' → Φ (.d d) Ω') → Pick2 [x, .d (.list ds)] Ω Φ Ξ
  | tup {x : SV} {ds : List PyData} {L R Ω : Om} {Φ : PhiE} {Ξ : XA} : Bag x L R Ω → ds ≠ [] → ds.length < 2 ^ 60 → (∀ d ∈ ds, ∀ Ω', Bag x L R Ω' → Φ (.d d) Ω') → Pick2 [x, .d (.tuple ds)] Ω Φ Ξ
theorem Pick2.ari : Ari Pick2 2 := by rintro _ _ _ _ (⟨_, _, _, _⟩ | ⟨_, _, _, _⟩) <;> rfl
end Z
/-! Zv: data that can be told as text and compared, by its parts; least terms. -/
namespace Z
open PySem PySem.Spec PyProof.Rows L2
/-- k: the depth, L: the length of its text -/
structure Rep (k L : Nat) (d : PyData) : Prop where
  sh : d.showable = true
  nd : d.hasDict = false
  dp : d.depth ≤ k
  ln : d.shown.length ≤ L
  cl : d.canLay0 = true
theorem Rep.mono {k L k' L' : Nat} {d : PyData} (h : Rep k L d) (h1 : k ≤ k') (h2 : L ≤ L') : Rep k' L' d := ⟨h.sh, h.nd, Nat.le_trans h.dp h1, Nat.le_trans h.ln h2, h.cl⟩
theorem Rep.shaped {k L : Nat} {d : PyData} (h : Rep k L d) (hk : k ≤ 64) : SeqAt.shaped d = true := by
  unfold SeqAt.shaped
  rw [h.cl, Bool.true_and, decide_eq_true_eq]
  exact Nat.le_trans h.dp hk
theorem Rep.eq {k L : Nat} {d : PyData} (h : Rep k L d) (hk : k ≤ 64) : PyData.eqv d d = true := SeqAt.eqv_refl d (SeqAt.canLay_of_shaped (h.shaped hk))
theorem Rep.repr {k L : Nat} {d : PyData} (h : Rep k L d) (hk : k ≤ 60) (hL : L ≤ 16777216) : d.showable = true ∧ d.hasDict = false ∧ d.depth ≤ 60 ∧ d.shown.length ≤ sizeLine := by
  have e : sizeLine = 16777216 := by decide
  exact ⟨h.sh, h.nd, Nat.le_trans h.dp hk, Nat.le_trans h.ln (by omega)⟩
theorem rep_int {i : Int} (h : i.natAbs < 2 ^ 1900) : Rep 0 2000 (.int i) := by
  have h2 : i.natAbs.log2 < 1900 := log2_lt h (by decide)
  exact ⟨by simp only [PyData.showable, decide_eq_true_eq]; omega, rfl, by simp [PyData.depth], by
    have := int_text_len_1921 (i := i) (by omega)
    simp only [PyData.shown]
    omega, rfl⟩
theorem rep_i {i : Int} (h0 : -(2 ^ 240) < i) (h : i < 2 ^ 240) : Rep 0 2000 (.int i) := rep_int (Nat.lt_of_lt_of_le (nat_bd h0 h) (by decide +kernel))
theorem rep_none : Rep 0 2000 .none := ⟨rfl, rfl, by simp [PyData.depth], by simp only [PyData.shown]; decide +kernel, rfl⟩
theorem rep_bool {b : Bool} : Rep 0 2000 (.bool b) := ⟨rfl, rfl, by simp [PyData.depth], by cases b <;> (simp only [PyData.shown]; decide +kernel), rfl⟩
theorem rep_str {x : Str} (h : (reprText x).length ≤ 2000) (h2 : PySem.PyData.strOk x = true) : Rep 0 2000 (.str x) := ⟨rfl, rfl, by simp [PyData.depth], by simp only [PyData.shown]; exact h, by simp only [PyData.canLay0]; exact h2⟩
theorem rep_all {k L : Nat} : ∀ {ds : List PyData}, (∀ d ∈ ds, Rep k L d) → PyData.showableAll ds = true ∧ PyData.hasDictAll ds = false ∧ PyData.depthAll ds ≤ k ∧ ((PyData.shownAll ds).length = ds.length ∧ ∀ t ∈ PyData.shownAll ds, t.length ≤ L) ∧ PyData.canLayAll0 ds = true
  | [], _ => ⟨rfl, rfl, by simp [PyData.depthAll], ⟨rfl, fun _ h => by cases h⟩, rfl⟩
  | d :: r, h => by
    obtain ⟨a, b, c, ⟨e, f⟩, g⟩ := rep_all (ds := r) fun x hx => h x (List.mem_cons_of_mem _ hx)
    have hd := h d List.mem_cons_self
    refine ⟨?_, ?_, ?_, ⟨?_, ?_⟩, ?_⟩
    · simp only [PyData.showableAll, hd.sh, a, Bool.and_self]
    · simp only [PyData.hasDictAll, hd.nd, b, Bool.or_self]
    · simp only [PyData.depthAll]
      have := hd.dp
      omega
    · simp only [PyData.shownAll, List.length_cons, e]
    · intro t ht
      simp only [PyData.shownAll, List.mem_cons] at ht
      rcases ht with rfl | ht
      · exact hd.ln
      · exact f t ht
    · simp only [PyData.canLayAll0, hd.cl, g, Bool.and_self]
theorem textFrom_le {B : Nat} : ∀ (ts : List Str) (k : Nat) (acc : Str), (∀ t ∈ ts, t.length ≤ B) → (textFrom k acc ts).length ≤ acc.length + ts.length * (B + 2)
  | [], k, acc, _ => by
    show acc.length ≤ _
    omega
  | t :: r, k, acc, h => by
    have h1 := h t List.mem_cons_self
    have ih := fun k acc => textFrom_le r k acc fun x hx => h x (List.mem_cons_of_mem _ hx)
    have e : (Str.ofString ", ").length = 2 := by decide +kernel
    show (textFrom (k + 1) _ r).length ≤ _
    refine Nat.le_trans (ih _ _) ?_
    rw [List.length_cons, Nat.succ_mul]
    have e0 : (Str.ofString "").length = 0 := by decide +kernel
    split
    · rw [strLen_append, strLen_append, e]
      omega
    · rw [strLen_append, strLen_append, e0]
      omega
theorem rep_tup {k L n : Nat} {ds : List PyData} (h : ∀ d ∈ ds, Rep k L d) (hn : ds.length ≤ n) : Rep (k + 1) (n * (L + 2) + 4) (.tuple ds) := by
  obtain ⟨a, b, c, ⟨e, f⟩, g⟩ := rep_all h
  refine ⟨by simp only [PyData.showable, a], by simp only [PyData.hasDict, b], by simp only [PyData.depth]; omega, ?_, by simp only [PyData.canLay0, g]⟩
  have j := join_le f
  simp only [PyData.shown, tupleText]
  rw [strLen_append, strLen_append]
  have e1 : (Str.ofString "(").length = 1 := by decide +kernel
  have e2 : (Str.ofString (if (PyData.shownAll ds).length == 1 then ",)" else ")" : String)).length ≤ 2 := by split <;> decide +kernel
  rw [e1]
  rw [e] at j
  have : ds.length * (L + 2) ≤ n * (L + 2) := Nat.mul_le_mul_right _ hn
  omega
theorem rep_lst {k L n : Nat} {ds : List PyData} (h : ∀ d ∈ ds, Rep k L d) (hn : ds.length ≤ n) : Rep (k + 1) (n * (L + 2) + 4) (.list ds) := by
  obtain ⟨a, b, c, ⟨e, f⟩, g⟩ := rep_all h
  refine ⟨by simp only [PyData.showable, a], by simp only [PyData.hasDict, b], by simp only [PyData.depth]; omega, ?_, by simp only [PyData.canLay0, g]⟩
  have j := textFrom_le (PyData.shownAll ds) 0 "[" f
  simp only [PyData.shown, listText]
  rw [strLen_append]
  have e1 : (Str.ofString "[").length = 1 := by decide +kernel
  have e2 : (Str.ofString "]").length = 1 := by decide +kernel
  rw [e1, e] at j
  rw [e2]
  have : ds.length * (L + 2) ≤ n * (L + 2) := Nat.mul_le_mul_right _ hn
  omega
/-! ### pairs of ints -/
abbrev prd (p : Int × Int) : PyData := .tuple [.int p.1, .int p.2]
abbrev prD (l : List (Int × Int)) : List PyData := l.map prd
theorem get_prD {l : List (Int × Int)} {i : Nat} {x : SV} (h : ((prD l).map SV.d)[i]? = some x) : ∃ p, l[i]? = some p ∧ x = .d (prd p) := by
  obtain ⟨d, h1, rfl⟩ := get_mapD h
  rw [prD, List.getElem?_map] at h1
  cases e : l[i]? with
  | none => rw [e] at h1; cases h1
  | some p => rw [e] at h1; cases h1; exact ⟨p, rfl, rfl⟩
theorem eqvAll_prD : ∀ l m : List (Int × Int), PyData.eqvAll (prD l) (prD m) = decide (l = m)
  | [], [] => by simp [prD, PyData.eqvAll]
  | [], _ :: _ => by simp [prD, PyData.eqvAll]
  | _ :: _, [] => by simp [prD, PyData.eqvAll]
  | (a, b) :: r, (c, d) :: t => by
    have h := eqvAll_prD r t
    simp only [prD] at h
    simp only [prD, List.map_cons, PyData.eqvAll, PyData.eqv, h, prd]
    by_cases e : a = c <;> by_cases e2 : b = d <;> by_cases e3 : r = t <;> simp [e, e2, e3]
theorem eqv_prd (p q : Int × Int) : PyData.eqv (prd p) (prd q) = decide (p = q) := by
  obtain ⟨a, b⟩ := p
  obtain ⟨c, d⟩ := q
  simp only [prd, PyData.eqv, PyData.eqvAll]
  by_cases e : a = c <;> by_cases e2 : b = d <;> simp [e, e2]
theorem canLayAll_prD : ∀ l : List (Int × Int), PyData.canLayAll0 (prD l) = true
  | [] => rfl
  | _ :: r => by
    have h := canLayAll_prD r
    simp only [prD] at h
    simp only [prD, List.map_cons, PyData.canLayAll0, PyData.canLay0, h, Bool.and_self]
theorem depthAll_prD : ∀ l : List (Int × Int), PyData.depthAll (prD l) ≤ 2
  | [] => by simp [prD, PyData.depthAll]
  | _ :: r => by
    have h := depthAll_prD r
    simp only [prD] at h
    simp only [prD, List.map_cons, PyData.depthAll, PyData.depth, prd]
    omega
theorem shaped_prD (l : List (Int × Int)) : SeqAt.shaped (.tuple (prD l)) = true ∧ SeqAt.shaped (.list (prD l)) = true := by
  have h := depthAll_prD l
  have c := canLayAll_prD l
  unfold SeqAt.shaped
  simp only [PyData.canLay0, PyData.depth, Bool.and_eq_true]
  have h2 : PyData.depthAll (prD l) + 1 ≤ 64 := by omega
  exact ⟨⟨c, decide_eq_true h2⟩, ⟨c, decide_eq_true h2⟩⟩
theorem eqv_prD (l m : List (Int × Int)) : PyData.eqv (.tuple (prD l)) (.tuple (prD m)) = decide (l = m) := by
  rw [PyData.eqv]
  exact eqvAll_prD l m
theorem shaped_prd (p : Int × Int) : SeqAt.shaped (prd p) = true := (shaped_isD [p.1, p.2]).1
/-- a comprehension of bools -/
theorem newX_bools {m : Mode} {bs : List Bool} {Ω : Om} {Φ : PhiE} (h : newL m (bs.map PyData.bool) Ω Φ) : newX m (bs.map fun b => SV.d (.bool b)) Ω Φ := by
  have e : (bs.map fun b => SV.d (.bool b)) = (bs.map PyData.bool).map SV.d := by rw [List.map_map]; rfl
  rw [e]
  exact newX_d h
theorem fAll_of {bs : List Bool} {Ω : Om} {Φ : PhiE} (h : Φ (.d (.bool (bs.all id))) Ω) : fAll (.d (.list (bs.map PyData.bool))) Ω Φ := ⟨bs, trivial, rfl, h⟩
theorem fAny_of {bs : List Bool} {Ω : Om} {Φ : PhiE} (h : Φ (.d (.bool (bs.any id))) Ω) : fAny (.d (.list (bs.map PyData.bool))) Ω Φ := ⟨bs, trivial, rfl, h⟩
/-! ### least terms -/
abbrev g2 (a b : Int) : Int := ((Nat.gcd a.natAbs b.natAbs : Nat) : Int)
def least (a b : Int) : Int × Int := (a / g2 a b, b / g2 a b)
theorem g2_pos {a b : Int} (h : 0 < b) : 0 < g2 a b := by
  have := Nat.gcd_pos_of_pos_right a.natAbs (show 0 < b.natAbs by omega)
  show (0 : Int) < ((_ : Nat) : Int)
  omega
theorem g2_le {a b : Int} (h : 0 < b) : g2 a b ≤ b := by
  have := Nat.le_of_dvd (show 0 < b.natAbs by omega) (Nat.gcd_dvd_right a.natAbs b.natAbs)
  show ((_ : Nat) : Int) ≤ b
  omega
theorem least_mul {a b : Int} (h : 0 < b) : g2 a b * (least a b).1 = a ∧ g2 a b * (least a b).2 = b :=
  ⟨Int.mul_ediv_cancel' (Int.gcd_dvd_left a b), Int.mul_ediv_cancel' (Int.gcd_dvd_right a b)⟩
theorem least_rng {a b : Int} (h0 : 0 ≤ a) (h : 0 < b) : 0 ≤ (least a b).1 ∧ (least a b).1 ≤ a ∧ 1 ≤ (least a b).2 ∧ (least a b).2 ≤ b ∧ (0 < a → 1 ≤ (least a b).1) := by
  obtain ⟨e1, e2⟩ := least_mul (a := a) h
  have g := g2_pos (a := a) h
  have r1 : 0 ≤ (least a b).1 := Int.ediv_nonneg h0 (Int.le_of_lt g)
  have r2 : 0 ≤ (least a b).2 := Int.ediv_nonneg (Int.le_of_lt h) (Int.le_of_lt g)
  have r3 : 1 ≤ (least a b).2 := by
    rcases Int.lt_or_eq_of_le r2 with z | z
    · omega
    · rw [← z, Int.mul_zero] at e2; omega
  refine ⟨r1, Int.ediv_le_self _ h0, r3, Int.ediv_le_self _ (Int.le_of_lt h), fun p => ?_⟩
  rcases Int.lt_or_eq_of_le r1 with z | z
  · omega
  · rw [← z, Int.mul_zero] at e1; omega
theorem least_co {a b : Int} (h : 0 < b) : Nat.gcd (least a b).1.natAbs (least a b).2.natAbs = 1 := by
  obtain ⟨e1, e2⟩ := least_mul (a := a) h
  have g := g2_pos (a := a) h
  have n1 : a.natAbs = Nat.gcd a.natAbs b.natAbs * (least a b).1.natAbs := by
    have := congrArg Int.natAbs e1
    rw [Int.natAbs_mul] at this
    exact this.symm
  have n2 : b.natAbs = Nat.gcd a.natAbs b.natAbs * (least a b).2.natAbs := by
    have := congrArg Int.natAbs e2
    rw [Int.natAbs_mul] at this
    exact this.symm
  have hg : 0 < Nat.gcd a.natAbs b.natAbs := by
    have : (0 : Int) < ((Nat.gcd a.natAbs b.natAbs : Nat) : Int) := g
    omega
  have e : Nat.gcd a.natAbs b.natAbs = Nat.gcd a.natAbs b.natAbs * Nat.gcd (least a b).1.natAbs (least a b).2.natAbs := by
    rw [← Nat.gcd_mul_left, ← n1, ← n2]
  have e3 : Nat.gcd a.natAbs b.natAbs * Nat.gcd (least a b).1.natAbs (least a b).2.natAbs = Nat.gcd a.natAbs b.natAbs * 1 := by omega
  exact Nat.eq_of_mul_eq_mul_left hg e3
theorem least_cross {a b : Int} (h : 0 < b) : (least a b).1 * b = a * (least a b).2 := by
  obtain ⟨e1, e2⟩ := least_mul (a := a) h
  have : (least a b).1 * (g2 a b * (least a b).2) = (g2 a b * (least a b).1) * (least a b).2 := by rw [Int.mul_left_comm, Int.mul_assoc]
  rwa [e1, e2] at this
/-- two fractions of least terms that are worth the same -/
theorem co_uniq {p q r s : Int} (hq : 0 < q) (hs : 0 < s) (hp : 0 ≤ p) (hr : 0 ≤ r) (c1 : Nat.gcd p.natAbs q.natAbs = 1) (c2 : Nat.gcd r.natAbs s.natAbs = 1) (e : p * s = r * q) : p = r ∧ q = s := by
  have n : p.natAbs * s.natAbs = r.natAbs * q.natAbs := by
    have := congrArg Int.natAbs e
    rwa [Int.natAbs_mul, Int.natAbs_mul] at this
  have d1 : q.natAbs ∣ s.natAbs := (Nat.Coprime.symm c1).dvd_of_dvd_mul_left (n ▸ Nat.dvd_mul_left ..)
  have d2 : s.natAbs ∣ q.natAbs := (Nat.Coprime.symm c2).dvd_of_dvd_mul_left (n ▸ Nat.dvd_mul_left ..)
  have eq : q.natAbs = s.natAbs := Nat.dvd_antisymm d1 d2
  have eq' : q = s := by omega
  refine ⟨?_, eq'⟩
  rw [eq'] at e
  exact Int.eq_of_mul_eq_mul_right (by omega) e
theorem least_eq {a b c d : Int} (h0 : 0 ≤ a) (h1 : 0 < b) (h2 : 0 ≤ c) (h3 : 0 < d) (e : a * d = c * b) : least a b = least c d := by
  have r1 := least_rng h0 h1
  have r2 := least_rng h2 h3
  obtain ⟨a1, a2⟩ := least_mul (a := a) h1
  obtain ⟨b1, b2⟩ := least_mul (a := c) h3
  have g1 := g2_pos (a := a) h1
  have g3 := g2_pos (a := c) h3
  have key : (least a b).1 * (least c d).2 = (least c d).1 * (least a b).2 := by
    have k : (g2 a b * g2 c d) * ((least a b).1 * (least c d).2) = (g2 a b * g2 c d) * ((least c d).1 * (least a b).2) := by
      have x1 : (g2 a b * g2 c d) * ((least a b).1 * (least c d).2) = (g2 a b * (least a b).1) * (g2 c d * (least c d).2) := by
        rw [Int.mul_assoc, Int.mul_assoc, Int.mul_left_comm (g2 c d)]
      have x2 : (g2 a b * g2 c d) * ((least c d).1 * (least a b).2) = (g2 c d * (least c d).1) * (g2 a b * (least a b).2) := by
        rw [Int.mul_comm (g2 a b) (g2 c d), Int.mul_assoc, Int.mul_assoc, Int.mul_left_comm (g2 a b)]
      rw [x1, x2, a1, a2, b1, b2]
      exact e
    exact Int.eq_of_mul_eq_mul_left (by have := Int.mul_pos g1 g3; omega) k
  have := co_uniq (by omega) (by omega) r1.1 r2.1 (least_co h1) (least_co h3) key
  exact Prod.ext this.1 this.2
theorem least_cancel {a b c d : Int} (h1 : 0 < b) (h3 : 0 < d) (e : least a b = least c d) : a * d = c * b := by
  have x := least_cross (a := a) h1
  have y := least_cross (a := c) h3
  rw [e] at x
  have q : 0 < (least c d).2 := by
    obtain ⟨b1, b2⟩ := least_mul (a := c) h3
    have g3 := g2_pos (a := c) h3
    rcases Int.lt_trichotomy (least c d).2 0 with z | z | z
    · have := Int.mul_neg_of_pos_of_neg g3 z; omega
    · rw [z, Int.mul_zero] at b2; omega
    · exact z
  -- x : P * b = a * Q, y : P * d = c * Q
  have k : (a * d) * (least c d).2 = (c * b) * (least c d).2 := by
    rw [Int.mul_assoc, Int.mul_comm d, ← Int.mul_assoc, ← x, Int.mul_assoc, Int.mul_comm b d, ← Int.mul_assoc, y, Int.mul_assoc, Int.mul_comm _ b, ← Int.mul_assoc]
  exact Int.eq_of_mul_eq_mul_right (by omega) k
theorem least_self {a b : Int} (h0 : 0 ≤ a) (h : 0 < b) (c : Nat.gcd a.natAbs b.natAbs = 1) : least a b = (a, b) := by
  have r := least_rng h0 h
  have := co_uniq (by omega) h r.1 h0 (least_co h) c (least_cross h)
  exact Prod.ext this.1 this.2
end Z
/-! Zu: comprehensions that stop a reading, and the common kinds of them. -/
namespace Z
open PySem PySem.Spec PyProof.Rows L2
/-- the turns of a comprehension: turn x Ω Y N: from the item x on, Y with what is put down, N if nothing is -/
structure LcS (m : Mode) (xs : List SV) (Kp : Om → Prop) (Ω1 : Om) (turn : SV → Om → (SV → Om → Prop) → (Om → Prop) → Prop) (Φ : PhiE) : Prop where
  ln : xs.length ≤ 1000000
  ex : ∃ W : Nat → List SV → Om → Prop, W 0 [] Ω1 ∧ (∀ i acc Ω, W i acc Ω → Kp Ω ∧ acc.length ≤ i) ∧
    (∀ i x acc Ω, xs[i]? = some x → W i acc Ω → turn x Ω (fun y Ω3 => W (i + 1) (acc ++ [y]) Ω3) (fun Ω2 => W (i + 1) acc Ω2)) ∧
    ∀ acc Ω, W xs.length acc Ω → newX m acc Ω Φ
def aLc2 (m : Mode) (ai : AI) (g : AG) (tt : AT) (te : AE) (vs : List Nat) : AE := fun ρ Ω Φ => ai ρ Ω fun xs Kp Ω1 => LcS m xs Kp Ω1 (fun x Ω Y N => g x (wipR ρ vs) fun ρ' => tt ρ' Ω fun b Ω2 => br b (te ρ' Ω2 Y) (N Ω2)) Φ
theorem aLc2_eq {m : Mode} {ai : AI} {g : AG} {tt : AT} {te : AE} {vs : List Nat} : aLc m ai g tt te vs = aLc2 m ai g tt te vs := by
  funext ρ Ω Φ
  unfold aLc aLc2
  congr 1
  funext xs Kp Ω1
  exact propext ⟨fun ⟨h1, h2⟩ => ⟨h1, h2⟩, fun ⟨h1, h2⟩ => ⟨h1, h2⟩⟩
theorem lc2 {X : Cx} {G : Gn} {e : Expr} {m : Mode} {ai : AI} {g : AG} {tt : AT} {te : AE} {vs : List Nat} (h : JE X G e (aLc m ai g tt te vs)) : JE X G e (aLc2 m ai g tt te vs) := aLc2_eq ▸ h
theorem lc2s {X : Cx} {G : Gn} {s : Stmt} {m : Mode} {ai : AI} {g g' : AG} {tt : AT} {te : AE} {vs : List Nat} (h : JS X G s (aAsg (aLc m ai g tt te vs) g')) : JS X G s (aAsg (aLc2 m ai g tt te vs) g') := aLc2_eq ▸ h
section
variable {m : Mode} {xs : List SV} {Kp : Om → Prop} {Ω1 : Om} {turn : SV → Om → (SV → Om → Prop) → (Om → Prop) → Prop} {Φ : PhiE}
/-- each item tells one value, that the place tells -/
theorem lc_at (f : Nat → PyData) (J : Om → Prop) (hl : xs.length ≤ 1000000) (j0 : J Ω1) (kp : ∀ Ω, J Ω → Kp Ω)
    (t : ∀ i x Ω (Y : SV → Om → Prop) (N : Om → Prop), xs[i]? = some x → J Ω → (∀ Ω', J Ω' → Y (.d (f i)) Ω') → turn x Ω Y N)
    (fin : ∀ Ω, J Ω → newL m ((List.range xs.length).map f) Ω Φ) : LcS m xs Kp Ω1 turn Φ := by
  refine ⟨hl, fun i acc Ω => acc = ((List.range i).map f).map SV.d ∧ J Ω, ⟨rfl, j0⟩, fun i acc Ω ⟨h1, h2⟩ => ⟨kp _ h2, by rw [h1, List.length_map, List.length_map, List.length_range]; exact Nat.le_refl _⟩, ?_, ?_⟩
  · rintro i x acc Ω e ⟨rfl, j⟩
    refine t i x Ω _ _ e j fun Ω' j' => ⟨?_, j'⟩
    rw [List.range_succ, List.map_append, List.map_append]
    rfl
  · rintro acc Ω ⟨rfl, j⟩
    exact newX_d (fin Ω j)
/-- .. that the item tells -/
theorem lc_map {ds : List PyData} (f : PyData → PyData) (J : Om → Prop) (hl : ds.length ≤ 1000000) (j0 : J Ω1) (kp : ∀ Ω, J Ω → Kp Ω)
    (t : ∀ d Ω (Y : SV → Om → Prop) (N : Om → Prop), d ∈ ds → J Ω → (∀ Ω', J Ω' → Y (.d (f d)) Ω') → turn (.d d) Ω Y N)
    (fin : ∀ Ω, J Ω → newL m (ds.map f) Ω Φ) : LcS m (ds.map SV.d) Kp Ω1 turn Φ := by
  refine lc_at (fun i => f (ds.getD i .none)) J (by rw [List.length_map]; exact hl) j0 kp (fun i x Ω Y N e j k => ?_) fun Ω j => ?_
  · obtain ⟨d, h1, rfl⟩ := get_mapD e
    refine t d Ω Y N (List.mem_of_getElem? h1) j fun Ω' j' => ?_
    have := k Ω' j'
    rw [List.getD_eq_getElem?_getD, h1] at this
    exact this
  · have e : (List.range (ds.map SV.d).length).map (fun i => f (ds.getD i .none)) = ds.map f := by
      refine List.ext_getElem? fun i => ?_
      rw [List.length_map, List.getElem?_map, List.getElem?_map]
      by_cases z : i < ds.length
      · rw [List.getElem?_eq_getElem (by rw [List.length_range]; exact z), List.getElem_range, List.getElem?_eq_getElem z]
        simp [List.getD_eq_getElem?_getD, z]
      · rw [List.getElem?_eq_none (by rw [List.length_range]; omega), List.getElem?_eq_none (by omega)]
        rfl
    rw [e]
    exact fin Ω j
/-- .. ints of ints -/
theorem lc_ints {is : List Int} (f : Int → Int) (J : Om → Prop) (hl : is.length ≤ 1000000) (j0 : J Ω1) (kp : ∀ Ω, J Ω → Kp Ω)
    (t : ∀ i Ω (Y : SV → Om → Prop) (N : Om → Prop), i ∈ is → J Ω → (∀ Ω', J Ω' → Y (I (f i)) Ω') → turn (I i) Ω Y N)
    (fin : ∀ Ω, J Ω → newL m (isD (is.map f)) Ω Φ) : LcS m ((isD is).map SV.d) Kp Ω1 turn Φ := by
  refine lc_map (fun d => match d with | .int i => .int (f i) | d => d) J (by rw [len_isD]; exact hl) j0 kp (fun d Ω Y N hd j k => ?_) fun Ω j => ?_
  · obtain ⟨i, hi, rfl⟩ := List.mem_map.mp hd
    exact t i Ω Y N hi j k
  · have := fin Ω j
    rw [isD, List.map_map] at this
    rw [isD, List.map_map]
    exact this
/-- .. bools of data -/
theorem lc_bools {ds : List PyData} (f : PyData → Bool) (J : Om → Prop) (hl : ds.length ≤ 1000000) (j0 : J Ω1) (kp : ∀ Ω, J Ω → Kp Ω)
    (t : ∀ d Ω (Y : SV → Om → Prop) (N : Om → Prop), d ∈ ds → J Ω → (∀ Ω', J Ω' → Y (.d (.bool (f d))) Ω') → turn (.d d) Ω Y N)
    (fin : ∀ Ω, J Ω → newL m ((ds.map f).map PyData.bool) Ω Φ) : LcS m (ds.map SV.d) Kp Ω1 turn Φ :=
  lc_map (fun d => .bool (f d)) J hl j0 kp t fun Ω j => by
    have := fin Ω j
    rw [List.map_map] at this
    exact this
/-- .. any value that fits its place -/
theorem lc_rel (P : Nat → PyData → Prop) (J : Om → Prop) (hl : xs.length ≤ 1000000) (j0 : J Ω1) (kp : ∀ Ω, J Ω → Kp Ω)
    (t : ∀ i x Ω (Y : SV → Om → Prop) (N : Om → Prop), xs[i]? = some x → J Ω → (∀ d Ω', P i d → J Ω' → Y (.d d) Ω') → turn x Ω Y N)
    (fin : ∀ ds Ω, ds.length = xs.length → (∀ i d, ds[i]? = some d → P i d) → J Ω → newL m ds Ω Φ) : LcS m xs Kp Ω1 turn Φ := by
  refine ⟨hl, fun i acc Ω => ∃ ds : List PyData, acc = ds.map SV.d ∧ ds.length = i ∧ (∀ i d, ds[i]? = some d → P i d) ∧ J Ω, ⟨[], rfl, rfl, fun i d h => by simp at h, j0⟩, fun i acc Ω ⟨ds, h1, h2, h3, h4⟩ => ⟨kp _ h4, by rw [h1, List.length_map, h2]; exact Nat.le_refl _⟩, ?_, ?_⟩
  · rintro i x acc Ω e ⟨ds, rfl, hn, hP, j⟩
    refine t i x Ω _ _ e j fun d Ω' p j' => ⟨ds ++ [d], by rw [List.map_append]; rfl, by rw [List.length_append, hn]; rfl, fun a b h => ?_, j'⟩
    rw [List.getElem?_append] at h
    split at h
    · exact hP a b h
    · have : a = i := by
        rcases Nat.lt_or_ge i a with z | z
        · rw [List.getElem?_eq_none (by rw [List.length_singleton]; omega)] at h; cases h
        · omega
      subst this
      rw [hn, Nat.sub_self] at h
      cases h
      exact p
  · rintro acc Ω ⟨ds, rfl, hn, hP, j⟩
    exact newX_d (fin ds Ω hn hP j)
/-- .. ints, each of which fits its place -/
theorem lc_relI (P : Nat → Int → Prop) (J : Om → Prop) (hl : xs.length ≤ 1000000) (j0 : J Ω1) (kp : ∀ Ω, J Ω → Kp Ω)
    (t : ∀ i x Ω (Y : SV → Om → Prop) (N : Om → Prop), xs[i]? = some x → J Ω → (∀ d Ω', P i d → J Ω' → Y (I d) Ω') → turn x Ω Y N)
    (fin : ∀ is Ω, is.length = xs.length → (∀ i d, is[i]? = some d → P i d) → J Ω → newL m (isD is) Ω Φ) : LcS m xs Kp Ω1 turn Φ := by
  refine lc_rel (fun i d => ∃ z, d = .int z ∧ P i z) J hl j0 kp (fun i x Ω Y N e j k => t i x Ω Y N e j fun d Ω' p j' => k _ _ ⟨d, rfl, p⟩ j') fun ds Ω hn hP j => ?_
  have ex : ∃ is : List Int, ds = isD is := by
    clear hn
    induction ds with
    | nil => exact ⟨[], rfl⟩
    | cons d r ih =>
      obtain ⟨z, rfl, -⟩ := hP 0 d rfl
      have : ∃ is : List Int, r = isD is := by
        clear ih
        have h : ∀ d ∈ r, ∃ z : Int, d = .int z := fun d hd => by
          obtain ⟨i, hi, rfl⟩ := List.mem_iff_getElem.mp hd
          obtain ⟨z, h, -⟩ := hP (i + 1) r[i] (by rw [List.getElem?_cons_succ]; exact List.getElem?_eq_getElem hi)
          exact ⟨z, h⟩
        clear hP
        induction r with
        | nil => exact ⟨[], rfl⟩
        | cons e r ih =>
          obtain ⟨z, rfl⟩ := h e List.mem_cons_self
          obtain ⟨is, rfl⟩ := ih fun d hd => h d (List.mem_cons_of_mem _ hd)
          exact ⟨z :: is, rfl⟩
      obtain ⟨is, rfl⟩ := this
      exact ⟨z :: is, rfl⟩
  obtain ⟨is, rfl⟩ := ex
  refine fin is Ω (by rw [← hn, len_isD]) (fun i d h => ?_) j
  obtain ⟨z, e, p⟩ := hP i (.int d) (by rw [isD, List.getElem?_map, h]; rfl)
  cases e
  exact p
/-- those items for which p holds -/
theorem lc_filter {ds : List PyData} (p : PyData → Bool) (J : Om → Prop) (hl : ds.length ≤ 1000000) (j0 : J Ω1) (kp : ∀ Ω, J Ω → Kp Ω)
    (t : ∀ d Ω (Y : SV → Om → Prop) (N : Om → Prop), d ∈ ds → J Ω → (p d = true → ∀ Ω', J Ω' → Y (.d d) Ω') → (p d = false → ∀ Ω', J Ω' → N Ω') → turn (.d d) Ω Y N)
    (fin : ∀ Ω, J Ω → newL m (ds.filter p) Ω Φ) : LcS m (ds.map SV.d) Kp Ω1 turn Φ := by
  refine ⟨by rw [List.length_map]; exact hl, fun i acc Ω => acc = ((ds.take i).filter p).map SV.d ∧ J Ω, ⟨rfl, j0⟩, fun i acc Ω ⟨h1, h2⟩ => ⟨kp _ h2, ?_⟩, ?_, ?_⟩
  · rw [h1, List.length_map]
    refine Nat.le_trans (List.length_filter_le ..) ?_
    rw [List.length_take]
    omega
  · rintro i x acc Ω e ⟨rfl, j⟩
    obtain ⟨d, h1, rfl⟩ := get_mapD e
    refine t d Ω _ _ (List.mem_of_getElem? h1) j (fun hp Ω' j' => ⟨?_, j'⟩) fun hp Ω' j' => ⟨?_, j'⟩
    · rw [List.take_add_one, h1, List.filter_append, List.map_append]
      simp [hp]
    · rw [List.take_add_one, h1, List.filter_append, List.map_append]
      simp [hp]
  · rintro acc Ω ⟨rfl, j⟩
    rw [List.length_map, List.take_length]
    exact newX_d (fin Ω j)
end
end Z
/-! Zk: dicts of ints and texts as cells of a def's own: {..}, d[k], d[k] = x, k in d. -/
namespace Z
open PySem PySem.Spec PyProof.Rows L2
abbrev Ent := Key × SV
def valS (kvs : List Ent) (k : Key) : Option SV := (kvs.find? fun p => decide (p.1 = k)).map (·.2)
def putS (kvs : List Ent) (k : Key) (x : SV) : List Ent := if (kvs.any fun p => decide (p.1 = k)) = true then kvs.map (fun p => if p.1 = k then (p.1, x) else p) else kvs ++ [(k, x)]
def mergeS (kvs more : List Ent) : List Ent := more.foldl (fun acc p => putS acc p.1 p.2) kvs
abbrev RpD (K : Frag) (F : Hp) : List (Key × V) → List Ent → Prop := Paired fun p q => p.1 = q.1 ∧ Rp K F p.2 q.2
section
variable {K : Frag} {F : Hp}
theorem rpd_any {k : Key} : ∀ {ws : List (Key × V)} {kvs : List Ent}, RpD K F ws kvs → (ws.any fun p => decide (p.1 = k)) = (kvs.any fun p => decide (p.1 = k))
  | _, _, .nil => rfl
  | _, _, .cons r t => by rw [List.any_cons, List.any_cons, r.1, rpd_any t]
theorem rpd_val {k : Key} : ∀ {ws : List (Key × V)} {kvs : List Ent}, RpD K F ws kvs → (valS kvs k = none ∧ valV ws k = none) ∨ ∃ v x, valS kvs k = some x ∧ valV ws k = some v ∧ Rp K F v x
  | _, _, .nil => .inl ⟨rfl, rfl⟩
  | p :: ws, q :: kvs, .cons r t => by
    by_cases e : p.1 = k
    · refine .inr ⟨p.2, q.2, ?_, valV_pos e, r.2⟩
      have e2 : q.1 = k := r.1 ▸ e
      simp [valS, List.find?_cons, e2]
    · have e2 : ¬ q.1 = k := r.1 ▸ e
      have h : valS (q :: kvs) k = valS kvs k := by simp [valS, List.find?_cons, e2]
      rw [h, valV_neg e]
      exact rpd_val t
theorem rpd_map {k : Key} {v : V} {x : SV} (rv : Rp K F v x) : ∀ {ws : List (Key × V)} {kvs : List Ent}, RpD K F ws kvs → RpD K F (ws.map fun kv => if kv.1 = k then (kv.1, v) else kv) (kvs.map fun p => if p.1 = k then (p.1, x) else p)
  | _, _, .nil => .nil
  | p :: ws, q :: kvs, .cons r t => by
    refine .cons ?_ (rpd_map rv t)
    dsimp only
    by_cases e : p.1 = k
    · rw [if_pos e, if_pos (r.1 ▸ e)]
      exact ⟨r.1, rv⟩
    · rw [if_neg e, if_neg (r.1 ▸ e)]
      exact r
theorem rpd_put {k : Key} {v : V} {x : SV} {ws : List (Key × V)} {kvs : List Ent} (r : RpD K F ws kvs) (rv : Rp K F v x) : RpD K F (putK ws k v) (putS kvs k x) := by
  unfold putK putS
  rw [rpd_any r]
  split
  · exact rpd_map rv r
  · exact pr_app r (.cons ⟨rfl, rv⟩ .nil)
theorem rpd_merge : ∀ {ms : List (Key × V)} {more : List Ent} {ws : List (Key × V)} {kvs : List Ent}, RpD K F ms more → RpD K F ws kvs → RpD K F (mergeK ws ms) (mergeS kvs more)
  | _, _, _, _, .nil, r => r
  | p :: ms, q :: more, ws, kvs, .cons h t, r => by
    show RpD K F (mergeK (putK ws p.1 p.2) ms) (mergeS (putS kvs q.1 q.2) more)
    refine rpd_merge t ?_
    rw [← h.1]
    exact rpd_put r h.2
theorem rpd_same {F' : Hp} (e : Same F F') {ws : List (Key × V)} {kvs : List Ent} (r : RpD K F ws kvs) : RpD K F' ws kvs := Paired.mapP r fun _ _ q => ⟨q.1, q.2.same e⟩
end
/-- a key -/
def keyOf : SV → Option Key
  | .d (.int i) => some (.inl i)
  | .d (.str s) => some (.inr s)
  | _ => none
theorem keyOf_ok {K : Frag} {F : Hp} {y : SV} {v : V} {k : Key} (h : keyOf y = some k) (r : Rp K F v y) : v = kV k := by
  unfold keyOf at h
  split at h
  · cases h; exact dqi r
  · cases h; exact dqs r
  · cases h
section
variable {X : Cx} {G : Gn} {e a b : Expr} {aa ab ac : AE} {pos : Pos}
/-- d[k] -/
def arDix : AR := fun x y Ω Φ => match x with
  | .r (.ref p) => ∃ kvs f k v, At Ω p (.dk kvs) f ∧ keyOf y = some k ∧ valS kvs k = some v ∧ Φ v Ω
  | _ => False
theorem je_dget (hu : X.A.units + 64 < cLine) (ha : JE X G a aa) (hb : JE X G b ab) (hs : NoSl b) : JE X G (.Subscript a b pos) (aBin arDix aa ab) := by
  obtain ⟨ta, p1, q1⟩ := ha
  obtain ⟨tb, p2, q2⟩ := hb
  refine ⟨_, pe_dget (by omega) p1 p2 hs, ⟨fun {ρ Ω Φ} h {P F H σ Q} o rp k => q1.go h o rp fun {v sv Ω1 F1 H1} z1 o1 s1 r1 => q2.go z1 o1 (rpe_same s1 rp) fun {v2 sv2 Ω2 F2 H2} z2 o2 s2 r2 => ?_⟩⟩
  unfold arDix at z2
  split at z2
  · obtain ⟨kvs, f, kk, w, t, e1, e2, z⟩ := z2
    cases (show v = _ from r1)
    obtain ⟨ws, h1, h2⟩ := o2.dk t
    obtain rfl := keyOf_ok e1 r2
    rcases rpd_val (k := kk) h2 with ⟨n, -⟩ | ⟨u, x, x1, x2, x3⟩
    · rw [n] at e2; cases e2
    · rw [x1] at e2
      cases e2
      exact ⟨_, u, rfl, x2 ▸ DGet.k h1, k z o2 (s1.trans s2) x3⟩
  · exact z2.elim
/-- k in d, k not in d -/
def arDinF (neg : Bool) : AR := fun y x Ω Φ => match x with
  | .r (.ref p) => ∃ kvs f k, At Ω p (.dk kvs) f ∧ keyOf y = some k ∧ Φ (.d (.bool (neg != (valS kvs k).isSome))) Ω
  | _ => False
theorem din_ok {E : En} {P F H : Hp} {Ω : Om} {neg : Bool} {x y : SV} {vx vy : V} {Φ : PhiE} (z : arDinF neg y x Ω Φ) (o : Ok E P F H Ω) (rx : Rp E.K F vx x) (ry : Rp E.K F vy y) : ∃ p ov, vx = .ref p ∧ DGet H p vy ov ∧ Φ (.d (.bool (neg != ov.isSome))) Ω := by
  unfold arDinF at z
  split at z
  · obtain ⟨kvs, f, kk, t, e1, z⟩ := z
    cases (show vx = _ from rx)
    obtain ⟨ws, h1, h2⟩ := o.dk t
    obtain rfl := keyOf_ok e1 ry
    refine ⟨_, _, rfl, DGet.k h1, ?_⟩
    rcases rpd_val (k := kk) h2 with ⟨n1, n2⟩ | ⟨u, x, x1, x2, x3⟩
    · rw [n2]; rw [n1] at z; exact z
    · rw [x2]; rw [x1] at z; exact z
  · exact z.elim
theorem je_din (hu : X.A.units + 64 < cLine) (hb : JE X G b ab) (ha : JE X G a aa) (hmk : behindInMarks .In a = false := by rfl) : JE X G (.Compare b [.In] [a] pos) (aBin (arDinF false) ab aa) := by
  obtain ⟨ta, p1, q1⟩ := ha
  obtain ⟨tb, p2, q2⟩ := hb
  refine ⟨_, pe_cmp (pc_din (by omega) p2 p1) hmk, ⟨fun {ρ Ω Φ} h {P F H σ Q} o rp k => q2.go h o rp fun {v sv Ω1 F1 H1} z1 o1 s1 r1 => q1.go z1 o1 (rpe_same s1 rp) fun {v2 sv2 Ω2 F2 H2} z2 o2 s2 r2 => ?_⟩⟩
  obtain ⟨p, ov, rfl, g, z⟩ := din_ok z2 o2 r2 (r1.same s2)
  exact ⟨p, ov, rfl, g, k z o2 (s1.trans s2) (by cases ov <;> exact .bl _)⟩
theorem je_dnotin (hu : X.A.units + 64 < cLine) (hb : JE X G b ab) (ha : JE X G a aa) (hmk : behindInMarks .NotIn a = false := by rfl) : JE X G (.Compare b [.NotIn] [a] pos) (aBin (arDinF true) ab aa) := by
  obtain ⟨ta, p1, q1⟩ := ha
  obtain ⟨tb, p2, q2⟩ := hb
  refine ⟨_, pe_cmp (pc_dnotin (by omega) p2 p1) hmk, ⟨fun {ρ Ω Φ} h {P F H σ Q} o rp k => q2.go h o rp fun {v sv Ω1 F1 H1} z1 o1 s1 r1 => q1.go z1 o1 (rpe_same s1 rp) fun {v2 sv2 Ω2 F2 H2} z2 o2 s2 r2 => ?_⟩⟩
  obtain ⟨p, ov, rfl, g, z⟩ := din_ok z2 o2 r2 (r1.same s2)
  exact ⟨p, ov, rfl, g, k z o2 (s1.trans s2) (by cases ov <;> exact .bl _)⟩
theorem jt_din (hu : X.A.units + 64 < cLine) (hb : JE X G b ab) (ha : JE X G a aa) (hmk : behindInMarks .In a = false := by rfl) : JT X G (.Compare b [.In] [a] pos) (aB (aBin (arDinF false) ab aa)) := by
  obtain ⟨ta, p1, q1⟩ := ha
  obtain ⟨tb, p2, q2⟩ := hb
  refine ⟨_, pt_cmp (pc_din (by omega) p2 p1) hmk, ⟨fun {ρ Ω Φ} h {P F H σ Q} o rp k => q2.go h o rp fun {v sv Ω1 F1 H1} z1 o1 s1 r1 => q1.go z1 o1 (rpe_same s1 rp) fun {v2 sv2 Ω2 F2 H2} z2 o2 s2 r2 => ?_⟩⟩
  obtain ⟨p, ov, rfl, g, z⟩ := din_ok z2 o2 r2 (r1.same s2)
  exact ⟨p, ov, rfl, g, _, rfl, by cases ov <;> exact k z o2 (s1.trans s2)⟩
theorem jt_dnotin (hu : X.A.units + 64 < cLine) (hb : JE X G b ab) (ha : JE X G a aa) (hmk : behindInMarks .NotIn a = false := by rfl) : JT X G (.Compare b [.NotIn] [a] pos) (aB (aBin (arDinF true) ab aa)) := by
  obtain ⟨ta, p1, q1⟩ := ha
  obtain ⟨tb, p2, q2⟩ := hb
  refine ⟨_, pt_cmp (pc_dnotin (by omega) p2 p1) hmk, ⟨fun {ρ Ω Φ} h {P F H σ Q} o rp k => q2.go h o rp fun {v sv Ω1 F1 H1} z1 o1 s1 r1 => q1.go z1 o1 (rpe_same s1 rp) fun {v2 sv2 Ω2 F2 H2} z2 o2 s2 r2 => ?_⟩⟩
  obtain ⟨p, ov, rfl, g, z⟩ := din_ok z2 o2 r2 (r1.same s2)
  exact ⟨p, ov, rfl, g, _, rfl, by cases ov <;> exact k z o2 (s1.trans s2)⟩
/-- d[k] = x -/
def aDPut (a o i : AE) : AS := fun D ρ Ω => a ρ Ω fun x Ω1 => o ρ Ω1 fun l Ω2 => i ρ Ω2 fun y Ω3 => match l with
  | .r (.ref p) => ∃ kvs f k, At Ω3 p (.dk kvs) f ∧ keyOf y = some k ∧ kvs.length < sizeLine ∧ D.nx ρ (f (.dk (putS kvs k x)))
  | _ => False
theorem js_dput {spos : Pos} (hu : X.A.units + 64 < cLine) (he : JE X G e aa) (ha : JE X G a ab) (hb : JE X G b ac) (hs : swapsWith e (some (.Subscript a b pos)) spos.line X.env = pure false := by rfl) : JS X G (.Assign [.Subscript a b pos] e spos) (aDPut aa ab ac) := by
  obtain ⟨te, p1, q1⟩ := he
  obtain ⟨ta, p2, q2⟩ := ha
  obtain ⟨tb, p3, q3⟩ := hb
  refine ⟨_, ps_dput (by omega) p2 p3 p1 hs, ⟨fun {D ρ Ω} h {P F H σ D'} k o rp => q1.go h o rp fun {v sv Ω1 F1 H1} z1 o1 s1 r1 => q2.go z1 o1 (rpe_same s1 rp) fun {v2 sv2 Ω2 F2 H2} z2 o2 s2 r2 => q3.go z2 o2 (rpe_same (s1.trans s2) rp) fun {v3 sv3 Ω3 F3 H3} z3 o3 s3 r3 => ?_⟩⟩
  have k3 := (s1.trans s2).trans s3
  have r1' := (r1.same s2).same s3
  dsimp only at z3
  split at z3
  · obtain ⟨kvs, f, kk, t, e1, e2, z⟩ := z3
    cases (show v2 = _ from r2)
    obtain ⟨ws, h1, h2⟩ := o3.dk t
    obtain rfl := keyOf_ok e1 r3
    exact ⟨_, _, rfl, DPut.k h1 (by rw [h2.length]; exact e2), k.nx z (o3.put t (rpd_put h2 r1')) k3 (rpe_same k3 rp)⟩
  · exact z3.elim
/-- i & 1 -/
def arAnd : AR := fun x y Ω Φ => match x, y with
  | .d (.int i), .d (.int j) => j = 1 ∧ Φ (.d (.int (i % 2))) Ω
  | _, _ => False
theorem jo_and : JOp X G (binaryOp .BitAnd) arAnd := by
  refine ⟨_, op_andM, ⟨fun {x y Ω Φ} h {P F H vx vy Q} o r1 r2 k => ?_⟩⟩
  unfold arAnd at h
  split at h
  · obtain ⟨rfl, h⟩ := h
    cases dqi r1
    cases dqi r2
    exact ⟨_, 1, rfl, rfl, k h o (Same.refl F) (.int _)⟩
  · exact h.elim
/-! ### displays -/
def aPrs : List (Key × AE) → Rho → Om → (List Ent → Om → Prop) → Prop
  | [], _, Ω, Φ => Φ [] Ω
  | (k, a) :: r, ρ, Ω, Φ => a ρ Ω fun x Ω1 => aPrs r ρ Ω1 fun kvs Ω2 => Φ ((k, x) :: kvs) Ω2
structure SnP (E : En) (trs : List (TE × TE)) (ps : List (Key × AE)) : Prop where
  go : ∀ {ρ : Rho} {Ω : Om} {Φ : List Ent → Om → Prop}, aPrs ps ρ Ω Φ → ∀ {P F H : Hp} {σ : L2.St} {Q : List (V × V) → Hp → Prop}, Ok E P F H Ω → RpE E.K F σ ρ →
    (∀ {ws : List (Key × V)} {kvs : List Ent} {Ω' : Om} {F' H' : Hp}, Φ kvs Ω' → Ok E P F' H' Ω' → Same F F' → RpD E.K F' ws kvs → Q (ws.map fun kv => (kV kv.1, kv.2)) H') → tPairs trs σ H Q
def JP (X : Cx) (G : Gn) (ks : List (Option Expr)) (vs : List Expr) (ps : List (Key × AE)) : Prop := ∃ trs, PPs X pos ks vs trs ∧ SnP (enX X G) trs ps
theorem jp_nil : JP (pos := pos) X G [] [] [] := ⟨_, pps_nil, ⟨fun {ρ Ω Φ} h {P F H σ Q} o rp k => k (ws := []) h o (Same.refl F) .nil⟩⟩
theorem jp_cons {kx : Expr} {ks : List (Option Expr)} {vs : List Expr} {ps : List (Key × AE)} {k : Key} (hk : PE X kx (tC (kV k))) (ha : JE X G e aa) (hr : JP (pos := pos) X G ks vs ps) : JP (pos := pos) X G (some kx :: ks) (e :: vs) ((k, aa) :: ps) := by
  obtain ⟨ta, p1, q1⟩ := ha
  obtain ⟨trs, p2, q2⟩ := hr
  refine ⟨_, pps_cons hk p1 p2, ⟨fun {ρ Ω Φ} h {P F H σ Q} o rp kk => ?_⟩⟩
  refine q1.go h o rp fun {v sv Ω1 F1 H1} z1 o1 s1 r1 => q2.go z1 o1 (rpe_same s1 rp) fun {ws kvs Ω2 F2 H2} z2 o2 s2 r2 => ?_
  exact kk (ws := (k, v) :: ws) z2 o2 (s1.trans s2) (.cons ⟨rfl, r1.same s2⟩ r2)
def aDisp (Fr : Addr → Prop) (ps : List (Key × AE)) : AE := fun ρ Ω Φ => aPrs ps ρ Ω fun kvs Ω' => kvs.length ≤ 15 ∧ ∀ p, Fr p → Φ (.r (.ref p)) ((p, .dk (mergeS [] kvs)) :: Ω')
theorem je_disp {ks : List (Option Expr)} {vs : List Expr} {ps : List (Key × AE)} {Fr : Addr → Prop} (hm : MOk (enX X G) (some Fr)) (h : JP (pos := pos) X G ks vs ps) (h1 : ks.all (·.isSome) = true) (h2 : ks.length = vs.length) (h3 : ks ≠ []) (h4 : ks.length ≤ 15) : JE X G (.Dict ks vs pos) (aDisp Fr ps) := by
  obtain ⟨trs, p1, q1⟩ := h
  refine ⟨_, pe_disp p1 h1 h2 h3 h4, ⟨fun {ρ Ω Φ} h {P F H σ Q} o rp k => fun p hp => ?_⟩⟩
  have nP : P p = none := o.pf.free hp
  have nF : F p = none := o.ex.free hp
  have n0 : (enX X G).H0 p = none := o.dm p hp
  have nP0 : (enX X G).P0 p = none := o.p0.free nP
  refine q1.go h (o.guard (o := .dK []) hp) rp fun {ws kvs Ω' F' H'} z o' s r => ?_
  refine ⟨o'.pf p _ upd_same, ws, rfl, by rw [r.length]; exact z.1, ?_⟩
  have nF' : F' p = none := o'.pF p (by rw [upd_same]; exact fun z => by cases z)
  have o2 := o'.poke (o' := .dK (mergeK [] ws)) nP0 nF' nP
  have o3 := o2.adopt (c := .dk (mergeS [] kvs)) o.p0 nP (rpd_merge r .nil)
  exact k (z.2 p (hm _ rfl p n0)) o3 s rfl
/-- {}, a new one -/
def aDNew (Fr : Addr → Prop) : AE := fun _ Ω Φ => ∀ p, Fr p → Φ (.r (.ref p)) ((p, .dk []) :: Ω)
theorem je_dnew {Fr : Addr → Prop} (hm : MOk (enX X G) (some Fr)) : JE X G (.Dict [] [] pos) (aDNew Fr) :=
  ⟨_, pe_dnewK, ⟨fun {ρ Ω Φ} h {P F H σ Q} o rp k => fun p hp => k (h p (hm _ rfl p (o.dm p hp))) (o.newO (c := .dk []) hp .nil) (Same.refl F) rfl⟩⟩
end
end Z
/-! Zt: x[::-1] of a tuple or a list. -/
namespace Z
open PySem PySem.Spec PyProof.Rows L2 HT
section
variable {prog : Program} {w : World} {A : Around} {E : Value → Shared → Prop} {s : Shared}
theorem sliceApplied_rev {sl : Addr} {t : Tok} {n : Nat} {Q : Int × Int × Nat → Shared → Prop} (hs : s.heap.IsSliceOf sl .none .none (.int (-1) t))
    (h : Q ((n : Int) - 1, -1, n) s) : wpAny (model prog w) A (Builtin.Slice.sliceApplied (.ref sl) (pure (n : Int))) Q E s := by
  obtain ⟨os, hos, hcs, hds⟩ := id hs
  unfold Builtin.Slice.sliceApplied Builtin.Slice.sliceFields
  refine wpAny_bind (wpAny_bind (wpAny_field hos hds (x := .none) rfl (wpAny_bind (wpAny_field hos hds (x := .none) rfl (wpAny_bind (wpAny_field hos hds (x := .int (-1) t) rfl (wpAny_pure ?_)))))))
  refine wpAny_bind (slicePart_int ?_)
  show wpAny _ _ (if ((-1 : Int) == 0) = true then _ else _) _ _ s
  rw [if_neg (by decide)]
  refine wpAny_bind (slicePart_none (wpAny_bind (slicePart_none (wpAny_bind (wpAny_pure ?_)))))
  show wpAny _ _ (match Builtin.Slice.sliceAdjust none none (-1) (n : Int) with | (lo, hi) => pure (lo, (-1 : Int), Builtin.Slice.slicePlaces lo hi (-1))) _ _ s
  have e1 : Builtin.Slice.sliceAdjust none none (-1) (n : Int) = ((n : Int) - 1, -1) := rfl
  rw [e1]
  have e2 : Builtin.Slice.slicePlaces ((n : Int) - 1) (-1) (-1) = n := by
    unfold Builtin.Slice.slicePlaces
    have h1 : ¬ ((-1 : Int) > 0) := by omega
    rw [if_neg h1, show (- -1 : Int) = 1 by decide, Int.ediv_one]
    split <;> omega
  show wpAny _ _ (pure ((n : Int) - 1, (-1 : Int), Builtin.Slice.slicePlaces ((n : Int) - 1) (-1) (-1))) _ _ s
  rw [e2]
  exact wpAny_pure h
theorem pick_rev (xs : Array Value) : ((List.range xs.size).filterMap fun (m : Nat) => xs[(((xs.size : Nat) : Int) - 1 + (m : Int) * -1).toNat]?).toArray = xs.toList.reverse.toArray := by
  have e : (List.range xs.size).filterMap (fun (m : Nat) => xs[(((xs.size : Nat) : Int) - 1 + (m : Int) * -1).toNat]?) = ((List.range xs.size).map fun k => xs.size - 1 - k).filterMap (xs[·]?) := by
    rw [List.filterMap_map]
    have g : ∀ l : List Nat, (∀ m ∈ l, m < xs.size) → l.filterMap (fun (m : Nat) => xs[(((xs.size : Nat) : Int) - 1 + (m : Int) * -1).toNat]?) = l.filterMap ((fun x => xs[x]?) ∘ fun k => xs.size - 1 - k) := by
      intro l
      induction l with
      | nil => intro _; rfl
      | cons m r ih =>
        intro h
        have := h m List.mem_cons_self
        have e : (((xs.size : Nat) : Int) - 1 + (m : Int) * -1).toNat = xs.size - 1 - m := by omega
        rw [List.filterMap_cons, List.filterMap_cons, ih fun x hx => h x (List.mem_cons_of_mem _ hx), e]
        rfl
    exact g _ fun m hm => List.mem_range.mp hm
  rw [e, PySem.W.krv_range, List.filterMap_reverse, PySem.W.krv_all]
theorem getItem_tuple_rev {t sl : Addr} {items : Array Value} {tk : Tok} {Q : Value → Shared → Prop} (ht : IsTup s.heap t items) (hs : s.heap.IsSliceOf sl .none .none (.int (-1) tk))
    (h : Q (.ref s.heap.objs.size) { s with heap := s.heap.push { cls := .type "tuple", data := .seq items.toList.reverse.toArray } })
    (hsz : items.size ≤ sizeLine) : wpAny (model prog w) A (getItem (.ref t) (.ref sl)) Q E s := by
  have htake : sizeOk (.seq items.toList.reverse.toArray) := by
    show items.toList.reverse.toArray.size ≤ sizeLine
    rw [List.size_toArray, List.length_reverse, Array.length_toList]
    omega
  obtain ⟨os, hos, hcs, hds⟩ := id hs
  have hTs : s.TypeIs (.ref sl) "slice" := ⟨os, hos, hcs⟩
  unfold getItem
  try with_reducible refine wpAny_holding ?_
  first | refine wpAny_bind (wpAny_pure ?_) | skip
  refine wpAny_bind (wpAny_sequenceKey ht.typeIs (by decide) ?_)
  refine wpAny_bind (wpAny_callSpecial?_slot (name := Str.ofString "__getitem__") ht.typeIs PyProof.Rows.slot_tuple_getitem
    (wpAny_call_entry PyProof.Rows.slot_tuple_getitem ht.typeIs entry_tuple_getitem ?_ (args_tuple_getitem _ _)))
  show wpAny _ _ (Builtin.Tuple.tupleItemsOf (.ref t) >>= _) _ _ s
  refine wpAny_bind (tupleItemsOf_ ht ?_)
  refine wpAny_bind (wpAny_typeOf hTs ?_)
  rw [if_pos (by decide)]
  refine wpAny_bind (sliceApplied_rev hs ?_)
  have hno : ¬ ((((items.size : Nat) : Int) - 1 == 0 && (-1 : Int) == 1 && items.size == items.size) = true) := by
    intro q
    rw [Bool.and_eq_true, Bool.and_eq_true] at q
    have q1 : (-1 : Int) = 1 := eq_of_beq q.1.2
    omega
  show wpAny _ _ (if (((items.size : Nat) : Int) - 1 == 0 && (-1 : Int) == 1 && items.size == items.size) = true then _ else _) _ _ s
  rw [if_neg hno, pick_rev]
  first
    | exact wpAny_bind (m := Builtin.Tuple.tupleExact _) (wpAny_newObj_type (wpAny_pure ⟨_, rfl, wpAny_pure h⟩) htake)
    | exact wpAny_bind (m := Builtin.Tuple.tupleExact _) (wpAny_newObj_type (wpAny_bind (wpAny_pure (wpAny_pure ⟨_, rfl, wpAny_pure h⟩))) htake)
    | exact wpAny_bind (wpAny_bind (m := Builtin.Tuple.tupleExact _) (wpAny_newObj_type (wpAny_pure (wpAny_pure ⟨_, rfl, wpAny_pure h⟩)) htake))
    | exact wpAny_bind (wpAny_bind (m := Builtin.Tuple.tupleExact _) (wpAny_newObj_type (wpAny_pure ⟨_, rfl, wpAny_pure h⟩) htake))
end
def tRev2 (K : PySem.W.Frag) (te : TE) : TE := fun σ H Q => te σ H fun x H1 =>
  (∃ a xs, x = .ref a ∧ SqL K H1 a xs ∧ ∀ p, H1 p = none → Q (.ref p) (upd H1 p (.lst xs.reverse))) ∨ ∃ a xs, x = .ref a ∧ SqT K H1 a xs ∧ ∀ p, H1 p = none → Q (.ref p) (upd H1 p (.tup xs.reverse))
theorem pe_rev2 {X : Cx} {e : Expr} {te : TE} {k : Nat} {p1 p2 p3 pos : Pos} (he : PE X e te) : PE X (.Subscript e (.Slice none none (some (.UnaryOp .USub (.Constant (.int 1) k p1) p2)) p3) pos) (tRev2 X.K te) := by
  refine ⟨fun pins s σ H Q I h => ?_⟩
  refine Subscript_ (thn (he.run pins s σ H _ I h) fun v s1 ⟨x, H1, I1, r1, q1⟩ => ?_)
  have hst : PO X (some (.UnaryOp .USub (.Constant (.int 1) k p1) p2)) (tPart (tUn (rU fun i => .int (-i)) (tC (.int 1)))) := po_some (pe_un un_neg pe_int)
  refine wpAny_Slice (thn (po_none.run pins s1 σ H1 (fun o H2 => o = none ∧ H2 = H1) I1 ⟨rfl, rfl⟩) fun vl s2 ⟨l, H2, I2, pl, el, e2⟩ => ?_)
  subst el e2
  refine thn (po_none.run pins s2 σ H2 (fun o H3 => o = none ∧ H3 = H2) I2 ⟨rfl, rfl⟩) fun vu s3 ⟨u, H3, I3, pu, eu, e3⟩ => ?_
  subst eu e3
  refine thn (hst.run pins s3 σ H3 (fun o H4 => o = some (-1) ∧ H4 = H3) I3 ⟨1, rfl, -1, rfl, rfl, rfl⟩) fun vs s4 ⟨o, H4, I4, ps, eo, e4⟩ => ?_
  subst eo e4
  have I5 : Inv X pins σ H4 { s4 with heap := s4.heap.push { cls := .type "slice", data := .fields #[vl, vu, vs] } } := I4.kept (t' := s4.toks) fun b ob q => Heap.get?_push_of_some _ q
  rcases q1 with ⟨a, xs, ex, hx, q⟩ | ⟨a, xs, ex, hx, q⟩
  · subst ex
    cases r1
    obtain ⟨its, r, ht, hz⟩ := I5.list hx
    have hlen := r.length
    show wpAny (model X.prog X.w) X.A (subscriptTail e (.Slice none none (some (.UnaryOp .USub (.Constant (.int 1) k p1) p2)) p3) (.ref a) (.ref s4.heap.objs.size)) (EP X pins σ Q) X.xe { s4 with heap := s4.heap.push { cls := .type "slice", data := .fields #[vl, vu, vs] } }
    refine tail_any (ops := [.ref a, .ref s4.heap.objs.size]) ht.isList.typeIs (PySem.slot_list_getitem.lookup) ?_ (by with_unfolding_all rfl)
    refine wpAny_getItem_list_slice ht.isList (Heap.IsSliceOf.new _ vl vu vs) pl pu ps (by decide) ?_ (by rw [List.size_toArray]; omega)
    rw [PySem.W.krv_pick]
    refine ⟨.ref _, _, I5.laid (t' := s4.toks) (o := .lst xs.reverse) (fun b ob q => Heap.get?_push_of_some _ q) (Nat.le_refl _) ?_, rfl, q _ (I5.hok.fresh (Nat.le_refl _))⟩
    exact ⟨by rw [List.length_reverse]; exact hz, _, 0, r.reverse, Heap.get?_push_size _ rfl⟩
  · subst ex
    cases r1
    cases pl
    cases pu
    obtain ⟨tk, rfl⟩ : ∃ tk, vs = .int (-1) tk := by cases ps with | int i t => exact ⟨_, rfl⟩
    obtain ⟨its, r, ht, hz⟩ := I5.tuple hx
    have hlen := r.length
    show wpAny (model X.prog X.w) X.A (subscriptTail e (.Slice none none (some (.UnaryOp .USub (.Constant (.int 1) k p1) p2)) p3) (.ref a) (.ref s4.heap.objs.size)) (EP X pins σ Q) X.xe { s4 with heap := s4.heap.push { cls := .type "slice", data := .fields #[.none, .none, .int (-1) tk] } }
    refine tail_any (ops := [.ref a, .ref s4.heap.objs.size]) ht.typeIs PyProof.Rows.slot_tuple_getitem.lookup ?_ (by with_unfolding_all rfl)
    refine getItem_tuple_rev ht (Heap.IsSliceOf.new _ _ _ _) ?_ (by rw [List.size_toArray]; omega)
    refine ⟨.ref _, _, I5.laid (t' := s4.toks) (o := .tup xs.reverse) (fun b ob q => Heap.get?_push_of_some _ q) (Nat.le_refl _) ?_, rfl, q _ (I5.hok.fresh (Nat.le_refl _))⟩
    exact ⟨by rw [List.length_reverse]; exact hz, _, r.reverse, _, Heap.get?_push_size _ rfl, rfl, 0, rfl⟩
def aRev2 (m : Mode) (a : AE) : AE := fun ρ Ω Φ => a ρ Ω fun x Ω' => match x with
  | .d (.tuple ds) => Φ (.d (.tuple ds.reverse)) Ω'
  | x => rdL x Ω' fun ds => newL m ds.reverse Ω' Φ
theorem je_rev2 {X : Cx} {G : Gn} {e : Expr} {aa : AE} {m : Mode} {k : Nat} {p1 p2 p3 pos : Pos} (hm : MOk (enX X G) m) (ha : JE X G e aa) : JE X G (.Subscript e (.Slice none none (some (.UnaryOp .USub (.Constant (.int 1) k p1) p2)) p3) pos) (aRev2 m aa) := by
  obtain ⟨t, h1, h2⟩ := ha
  refine ⟨_, pe_rev2 h1, ⟨fun {ρ Ω Φ} h {P F H σ Q} o rp k => h2.go h o rp fun {v sv Ω1 F1 H1} q o1 s1 r1 => ?_⟩⟩
  dsimp only at q
  split at q
  · obtain ⟨a, vs, rfl, hs, da⟩ := dqt r1
    refine .inr ⟨a, vs, rfl, sqt_same o1.ex hs, fun p hp => ?_⟩
    obtain ⟨o2, s2⟩ := o1.newF (o := .tup vs.reverse) hp
    exact k q o2 (s1.trans s2) (Dq.tup (SqT.of upd_same) (dqa_same s2 _ _ (dqa_rev da)))
  · obtain ⟨p, vs, ds, rfl, hs, da, q⟩ := rdL_ok q o1 r1
    exact .inl ⟨p, vs, rfl, SqL.of hs, fun z hz => newL_ok hm o1 (dqa_rev da) q (fun q2 o2 s2 r2 => k q2 o2 (s1.trans s2) r2) hz⟩
end Z
namespace Z
open PySem PySem.Spec PyProof.Rows L2
/-! ### a factor that is small -/
abbrev arMulC : AR := arI CMul fun i j => .int (i * j)
theorem jo_mulC {X : Cx} {G : Gn} : JOp X G (binaryOp .Mult) arMulC := ⟨_, op_mul, arI_ok fun _ _ _ => .int _⟩
/-! ### the deck of a law: a dict of a list and two numbers -/
def dkv (g m t : SV) : List Ent := [(.inr "great", g), (.inr "mixed", m), (.inr "turns", t)]
theorem kgm : ((.inr "great" : Key) = .inr "mixed") = False := by simp only [eq_iff_iff, iff_false]; decide +kernel
theorem kgt : ((.inr "great" : Key) = .inr "turns") = False := by simp only [eq_iff_iff, iff_false]; decide +kernel
theorem kmg : ((.inr "mixed" : Key) = .inr "great") = False := by simp only [eq_iff_iff, iff_false]; decide +kernel
theorem kmt : ((.inr "mixed" : Key) = .inr "turns") = False := by simp only [eq_iff_iff, iff_false]; decide +kernel
theorem ktg : ((.inr "turns" : Key) = .inr "great") = False := by simp only [eq_iff_iff, iff_false]; decide +kernel
theorem ktm : ((.inr "turns" : Key) = .inr "mixed") = False := by simp only [eq_iff_iff, iff_false]; decide +kernel
theorem dkv_g {g m t : SV} : valS (dkv g m t) (.inr "great") = some g := by unfold valS dkv; rw [List.find?_cons]; simp
theorem dkv_m {g m t : SV} : valS (dkv g m t) (.inr "mixed") = some m := by unfold valS dkv; rw [List.find?_cons, List.find?_cons]; simp only [kgm, decide_false, decide_true, Option.map_some]
theorem dkv_t {g m t : SV} : valS (dkv g m t) (.inr "turns") = some t := by unfold valS dkv; rw [List.find?_cons, List.find?_cons, List.find?_cons]; simp only [kgt, kmt, decide_false, decide_true, Option.map_some]
theorem dkv_pm {g m t x : SV} : putS (dkv g m t) (.inr "mixed") x = dkv g x t := by
  unfold putS dkv
  simp only [List.any_cons, List.map_cons, List.map_nil, kgm, ktm, decide_false, decide_true, Bool.false_or, Bool.true_or, if_true, if_false]
theorem dkv_pt {g m t x : SV} : putS (dkv g m t) (.inr "turns") x = dkv g m x := by
  unfold putS dkv
  simp only [List.any_cons, List.map_cons, List.map_nil, kgt, kmt, decide_false, decide_true, Bool.false_or, Bool.true_or, if_true, if_false]
theorem dkv_new {g m t : SV} : mergeS [] [(.inr "great", g), (.inr "mixed", m), (.inr "turns", t)] = dkv g m t := by
  unfold mergeS dkv putS
  simp only [List.foldl_cons, List.foldl_nil, List.any_nil, List.any_cons, List.nil_append, List.cons_append, kgm, kgt, kmt, decide_false, Bool.or_false, Bool.false_eq_true, if_false]
structure DeckOk (m t : Int) (is : List Int) : Prop where
  m0 : 0 ≤ m
  m1 : m < 4294967291
  t0 : 0 ≤ t
  i0 : ∀ i ∈ is, 0 ≤ i
  ln : is.length ≤ 63
inductive Deck (x : SV) (L R : Om) : Om → Prop where
  | mk {b c : Addr} {m t : Int} {is : List Int} : x = .r (.ref b) → DeckOk m t is → Deck x L R (L ++ (b, .dk (dkv (.r (.ref c)) (I m) (I t))) :: (c, .lst (isD is)) :: R)
theorem Deck.push {x : SV} {L R Ω : Om} (h : Deck x L R Ω) (p : Addr × OC) : Deck x (p :: L) R (p :: Ω) := by
  obtain ⟨h1, h2⟩ := h
  exact .mk (L := p :: L) h1 h2
theorem Deck.pop {x : SV} {p : Addr × OC} {L R Ω : Om} (h : Deck x (p :: L) R Ω) : ∃ Ω2, Ω = p :: Ω2 ∧ Deck x L R Ω2 := by
  obtain ⟨h1, h2⟩ := h
  exact ⟨_, rfl, .mk h1 h2⟩
inductive DDrawC : Con where
  | mk {x : SV} {below : Int} {L R Ω : Om} {Φ : PhiE} {Ξ : XA} : Deck x L R Ω → 0 < below → below < 2 ^ 240 → (∀ r Ω', 0 ≤ r → r < below → Deck x L R Ω' → Φ (I r) Ω') → DDrawC [x, I below] Ω Φ Ξ
theorem DDrawC.ari : Ari DDrawC 2 := by rintro _ _ _ _ ⟨_, _, _, _⟩; rfl
inductive DPickC : Con where
  | mk {x : SV} {ds : List PyData} {L R Ω : Om} {Φ : PhiE} {Ξ : XA} : Deck x L R Ω → ds ≠ [] → ds.length < 2 ^ 60 → (∀ d ∈ ds, ∀ Ω', Deck x L R Ω' → Φ (.d d) Ω') → DPickC [x, .d (.list ds)] Ω Φ Ξ
theorem DPickC.ari : Ari DPickC 2 := by rintro _ _ _ _ ⟨_, _, _, _⟩; rfl
inductive DeckC (k : Nat) : Con where
  | mk {ns : List Int} {Φ : PhiE} {Ξ : XA} : ScrOk k ns → (∀ x Ω, Deck x [] [] Ω → Φ x Ω) → DeckC k [.l (isD ns)] [] Φ Ξ
theorem DeckC.ari {k : Nat} : Ari (DeckC k) 1 := by rintro _ _ _ _ ⟨_, _⟩; rfl
end Z
namespace Z
theorem len_repD {α : Type} (xs : List α) (k : Int) : (repD xs k).length = k.toNat * xs.length := by
  unfold repD
  rw [List.length_flatten, List.map_replicate, List.sum_replicate_nat]
end Z
/-! Zj: tuple * int of any kind; str(int); max, min of a tuple of ints. -/
namespace Z
open PySem PySem.Spec PyProof.Rows L2
theorem tuple_mulS (l : Addr) (items : Array Value) (n : Nat) (x : Int) (u : Tok) (c0 : (decide (x < -(2 ^ 63)) || decide (x ≥ 2 ^ 63)) = false) (c1 : (items.isEmpty || x == 1) = true) (dd : Option Addr) (sl : Array (Option Value)) :
    Meets (Builtin.«tuple.__mul__» ⟨[.ref l, .int x u], []⟩) (fun _ R s => s.heap.get? l = some { cls := .type "tuple", dict := dd, data := .seq items n, slots := sl } ∧ R (.ok (.ret (Value.ref l))) s) :=
  .of_wp fun prog w A R s h => by
    obtain ⟨hp, g, d, tk, os⟩ := s
    obtain ⟨hl, h⟩ := h
    have f1 := AutoSeq1.idx_int
    wp_walk using wpAny_loadPart' hl
    repeat (first
      | (refine wpAny_ite_false (decide_eq_false (by rw [c0]; exact Bool.false_ne_true)) ?_; wp_walk using wpAny_loadPart' hl)
      | (refine wpAny_ite_true (decide_eq_true (by rw [c1])) ?_; wp_walk using wpAny_loadPart' hl))
    exact ⟨_, rfl, h⟩
theorem tuple_mul0 (l : Addr) (items : Array Value) (n : Nat) (x : Int) (u : Tok) (c0 : (decide (x < -(2 ^ 63)) || decide (x ≥ 2 ^ 63)) = false) (c1 : (items.isEmpty || x == 1) = false) (c2 : (decide (x ≤ 0) || items.isEmpty) = true) (dd : Option Addr) (sl : Array (Option Value)) :
    Meets (Builtin.«tuple.__mul__» ⟨[.ref l, .int x u], []⟩) (fun _ R s => s.heap.get? l = some { cls := .type "tuple", dict := dd, data := .seq items n, slots := sl } ∧
      R (.ok (.ret (Value.ref s.heap.objs.size))) { s with heap := s.heap.push { cls := Value.type "tuple", data := Data.seq #[] }, toks := s.toks }) :=
  .of_wp fun prog w A R s h => by
    obtain ⟨hp, g, d, tk, os⟩ := s
    obtain ⟨hl, h⟩ := h
    have f1 := AutoSeq1.idx_int
    wp_walk using wpAny_loadPart' hl
    repeat (first
      | (refine wpAny_ite_false (decide_eq_false (by rw [c0]; exact Bool.false_ne_true)) ?_; wp_walk using wpAny_loadPart' hl)
      | (refine wpAny_ite_false (decide_eq_false (by rw [c1]; exact Bool.false_ne_true)) ?_; wp_walk using wpAny_loadPart' hl)
      | (refine wpAny_ite_true (decide_eq_true (by rw [c2])) ?_; wp_walk using wpAny_loadPart' hl))
    exact ⟨_, rfl, h⟩
/-! ### max of a tuple of ints -/
section
variable {prog : Program} {w : World} {A : Around} {E : Value → Shared → Prop} {s : Shared} {l : Addr} {xs : Array (Int × Tok)}
theorem max_intTuple {Q : Value → Shared → Prop} (hh : A.handled = none) (hl : s.heap.IsTuple l (intItems xs)) (hne : 0 < xs.size)
    (h : ∀ v h' tk, (intItems xs)[argBest (fun i j => decide (numAt xs i > numAt xs j)) (xs.size - 1)]? = some v → (∀ b o, s.heap.get? b = some o → h'.get? b = some o) → Q v { s with heap := h', toks := tk }) :
    wpAny (model prog w) A (call (.builtin "max") [.ref l]) Q E s := by
  have hlt : l < s.heap.objs.size := by obtain ⟨_, e, _⟩ := hl; exact Heap.lt_size e
  refine call_max_walk (wpAny_pyIter_tuple hl ?_)
  refine ⟨_, _, _, _, _, _, _, rfl, Walks.tuple (A := A.in1) hh _ l (Nat.ne_of_lt hlt) (intItems xs), ⟨⟨_, Heap.get?_push_size _ rfl, rfl, rfl⟩, hl.push _⟩, fun b hb => ?_, by simpa [intItems] using hne,
    CmpOf.ints_gt (numAt xs) (fun _ _ => intItems_at), fun v h' tk hP hk => ?_⟩
  · show b < (s.heap.push _).objs.size
    rw [Heap.size_push]
    rcases List.mem_cons.mp hb with rfl | hb
    · exact Nat.lt_succ_self _
    · rcases List.mem_cons.mp hb with rfl | hb
      · exact Nat.lt_succ_of_lt hlt
      · cases hb
  · refine h v h' tk (by simpa [intItems] using hP) fun b o e => ?_
    refine hk b o (fun hm => ?_) (Heap.get?_push_of_some _ e)
    rcases List.mem_cons.mp hm with e1 | hm
    · exact absurd (e1 ▸ Heap.lt_size e) (Nat.lt_irrefl _)
    · cases hm
theorem max_rawT {its : List Value} {ns : List Int} {Q : Value → Shared → Prop} (hh : A.handled = none) (hl : s.heap.IsTuple l its.toArray) (hi : IntsAre its ns) (hne : 0 < ns.length)
    (h : ∀ h' tk M t', (∀ b o, s.heap.get? b = some o → h'.get? b = some o) → M ∈ ns → (∀ a, a ∈ ns → a ≤ M) → Q (.int M t') { s with heap := h', toks := tk }) : wpAny (model prog w) A (call (.builtin "max") [.ref l]) Q E s := by
  obtain ⟨xs, e⟩ := hi.allInts.items
  have hn : numsOf (intItems xs).toList = ns := by rw [← e]; exact hi.numsOf
  rw [nums_intItems] at hn
  subst hn
  rw [e] at hl
  have hsz : 0 < xs.size := by simpa using hne
  refine max_intTuple hh hl hsz fun v h' tk hv hk => ?_
  obtain ⟨t, rfl⟩ := intItems_at hv
  obtain ⟨h1, h2⟩ := argBest_gt (numAt xs) (xs.size - 1)
  refine h h' tk _ t hk ?_ fun a ha => ?_
  · rw [numAt_eq]; exact PySem.getD_mem (by rw [List.length_map, Array.length_toList]; omega)
  · obtain ⟨j, hj, rfl⟩ := mem_getD ha
    rw [List.length_map, Array.length_toList] at hj
    rw [← numAt_eq]; exact h2 j (by omega)
end
section
variable {X : Cx} {G : Gn} {m : Mode}
theorem cr_maxT (hc : X.calm = true) : CallR X (.builtin "max") (fun vs H Q => ∃ (a : Addr) (ns : List Int), vs = [V.ref a] ∧ SqT X.K H a (ns.map V.int) ∧ 0 < ns.length ∧ ∀ m, m ∈ ns → (∀ y, y ∈ ns → y ≤ m) → Q (.int m) H) := by
  intro pins s σ H vs us Q I r h
  obtain ⟨a, ns, rfl, hs, hne, q⟩ := h
  obtain ⟨its, rv, hl, _⟩ := I.tuple hs
  rw [Vals.ref1 r]
  exact max_rawT (I.ok.hd hc) hl rv.ints hne fun h' tk m t' hk h1 h2 => ⟨.int _, H, I.kept hk, ⟨_, rfl⟩, q m h1 h2⟩
/-- max of a tuple of ints -/
def fMaxT (x : SV) (Ω : Om) (Φ : PhiE) : Prop := match x with
  | .d (.tuple ds) => ∃ ns : List Int, ds = ns.map PyData.int ∧ 0 < ns.length ∧ ∀ m, m ∈ ns → (∀ y, y ∈ ns → y ≤ m) → Φ (.d (.int m)) Ω
  | _ => False
theorem jc_maxT (hc : X.calm = true) : JC X G (.builtin "max") (ac1 fMaxT) := by
  refine ⟨_, cr_maxT hc, ac1_ok fun {x Ω Φ} h {P F H v Q} o r k => ?_⟩
  unfold fMaxT at h
  split at h
  · obtain ⟨ns, rfl, hn, q⟩ := h
    obtain ⟨a, xs, rfl, hF, da⟩ := dqt r
    rw [dqa_ints da] at hF
    exact ⟨a, ns, rfl, sqt_same o.ex hF, hn, fun m h1 h2 => k (q m h1 h2) o (Same.refl F) (.int _)⟩
  · exact h.elim
/-- str of an int -/
def fStrI (x : SV) (Ω : Om) (Φ : PhiE) : Prop := match x with
  | .d (.int i) => i.natAbs.log2 < 1920 ∧ Φ (.d (.str (toString i))) Ω
  | _ => False
theorem jc_strI : JC X G (.type "str") (ac1 fStrI) := by
  refine ⟨_, call_str_int, ac1_ok fun {x Ω Φ} h {P F H v Q} o r k => ?_⟩
  unfold fStrI at h
  split at h
  · cases dqi r; exact ⟨_, rfl, h.1, k h.2 o (Same.refl F) (.str _)⟩
  · exact h.elim
/-! ### tuple == () -/
theorem op_eqNil (hu : X.A.units + 64 < cLine) : OpR X (compareOp .Eq) (fun x y H Q => ∃ a b xs, x = .ref a ∧ y = .ref b ∧ SqT X.K H a xs ∧ SqT X.K H b [] ∧ Q (.bl xs.isEmpty) H) := by
  intro pins s σ H x y v u Q I rx ry h
  obtain ⟨a, b, xs, rfl, rfl, ha, hb, q⟩ := h
  cases rx
  cases ry
  obtain ⟨its, r1, p1, _⟩ := I.tuple ha
  obtain ⟨its2, r2, p2, _⟩ := I.tuple hb
  cases r2
  refine SeqAt.RcAt.tuples (e := fun _ => true) p1 p2 (by omega) (fun j h1 h2 => absurd h2 (Nat.not_lt_zero _)) _ _ _ _ ⟨.bl xs.isEmpty, H, I, ?_, q⟩
  cases r1 <;> rfl
theorem op_neNil (hu : X.A.units + 64 < cLine) : OpR X (compareOp .NotEq) (fun x y H Q => ∃ a b xs, x = .ref a ∧ y = .ref b ∧ SqT X.K H a xs ∧ SqT X.K H b [] ∧ Q (.bl (!xs.isEmpty)) H) := by
  intro pins s σ H x y v u Q I rx ry h
  obtain ⟨a, b, xs, rfl, rfl, ha, hb, q⟩ := h
  cases rx
  cases ry
  obtain ⟨its, r1, p1, _⟩ := I.tuple ha
  obtain ⟨its2, r2, p2, _⟩ := I.tuple hb
  cases r2
  refine SeqAt.RcNeAt.tuples (e := fun _ => true) p1 p2 (by omega) (fun j h1 h2 => absurd h2 (Nat.not_lt_zero _)) _ _ _ _ ⟨.bl (!xs.isEmpty), H, I, ?_, q⟩
  cases r1 <;> rfl
/-- a == (), a != () for a tuple -/
def arEqN : AR := fun x y Ω Φ => match x, y with
  | .d (.tuple xs), .d (.tuple []) => Φ (.d (.bool xs.isEmpty)) Ω
  | _, _ => False
def arNeN : AR := fun x y Ω Φ => match x, y with
  | .d (.tuple xs), .d (.tuple []) => Φ (.d (.bool (!xs.isEmpty))) Ω
  | _, _ => False
theorem dqa_emp {K : Frag} {F : Hp} {vs : List V} {ds : List PyData} (h : DqAll K F vs ds) : vs.isEmpty = ds.isEmpty := by cases h <;> rfl
theorem jo_eqN (hu : X.A.units + 64 < cLine) : JOp X G (compareOp .Eq) arEqN := by
  refine ⟨_, op_eqNil hu, ⟨fun {x y Ω Φ} h {P F H vx vy Q} o r1 r2 k => ?_⟩⟩
  unfold arEqN at h
  split at h
  · obtain ⟨a, vs, rfl, ha, da⟩ := dqt r1
    obtain ⟨b, ws, rfl, hb, db⟩ := dqt r2
    cases db
    exact ⟨a, b, vs, rfl, rfl, sqt_same o.ex ha, sqt_same o.ex hb, k h o (Same.refl F) (by rw [dqa_emp da]; exact .bl _)⟩
  · exact h.elim
theorem jo_neN (hu : X.A.units + 64 < cLine) : JOp X G (compareOp .NotEq) arNeN := by
  refine ⟨_, op_neNil hu, ⟨fun {x y Ω Φ} h {P F H vx vy Q} o r1 r2 k => ?_⟩⟩
  unfold arNeN at h
  split at h
  · obtain ⟨a, vs, rfl, ha, da⟩ := dqt r1
    obtain ⟨b, ws, rfl, hb, db⟩ := dqt r2
    cases db
    exact ⟨a, b, vs, rfl, rfl, sqt_same o.ex ha, sqt_same o.ex hb, k h o (Same.refl F) (by rw [dqa_emp da]; exact .bl _)⟩
  · exact h.elim
end
/-! ### tuple * int, any int to 1000 -/
section
variable {X : Cx} {G : Gn} {m : Mode}
theorem op_repA : OpR X (binaryOp .Mult) (fun x y H Q => ∃ l k xs, x = .ref l ∧ y = .int k ∧ SqT X.K H l xs ∧ -1000 ≤ k ∧ k ≤ 1000 ∧ xs.length ≤ 1000 ∧ ((xs = [] ∨ k = 1) → Q (.ref l) H) ∧ (xs ≠ [] → k ≤ 0 → ∀ p, H p = none → Q (.ref p) (upd H p (.tup []))) ∧
    (xs ≠ [] → 2 ≤ k → ∀ p, H p = none → Q (.ref p) (upd H p (.tup (List.replicate k.toNat xs).flatten)))) := by
  intro pins s σ H x y v u Q I rx ry h
  obtain ⟨l, k, xs, rfl, rfl, hT, h1, h2, hz, q1, q2, q3⟩ := h
  by_cases hb : xs ≠ [] ∧ 2 ≤ k
  · exact op_repT pins s σ H _ _ v u Q I rx ry ⟨l, k, xs, rfl, rfl, hT, hb.1, hb.2, h2, hz, q3 hb.1 hb.2⟩
  cases rx
  obtain ⟨t, rfl⟩ := ry
  obtain ⟨its, r, ⟨⟨cls, dd, data, sl⟩, ho, hc, n, hd⟩, hs⟩ := I.tuple hT
  simp only at hc hd
  subst hc hd
  have c0 : (decide (k < -(2 ^ 63)) || decide (k ≥ 2 ^ 63)) = false := by
    rw [decide_eq_false (by omega), decide_eq_false (by omega)] <;> rfl
  have he : its.toArray.isEmpty = xs.isEmpty := by cases r <;> rfl
  by_cases ha : xs = [] ∨ k = 1
  · have c1 : (its.toArray.isEmpty || k == 1) = true := by
      rw [he]
      rcases ha with rfl | rfl
      · rfl
      · simp
    exact wpAny_binaryOp_repeat_ref (T := "tuple") (U := "int") (by decide) ⟨_, ho, rfl⟩ (fun s' => typeIs_int s' k t) noFill_tuple_mul F.fills_int_mul F.slot_int_rmul repeat_tuple F.slot_int_index.lookup
      (call_meets F.slot_int_rmul (typeIs_int s k t) F.entry_int_rmul (F.args_int_rmul_2 _ _) (int_rmul_tuple k t l its.toArray n dd sl)
        ⟨ho, rfl, ⟨_, ho, rfl⟩, call_meets F.slot_tuple_mul ⟨_, ho, rfl⟩ F.entry_tuple_mul (F.args_tuple_mul_2 _ _) (tuple_mulS l its.toArray n k t c0 c1 dd sl) ⟨ho, ⟨.ref l, H, I, rfl, q1 ha⟩⟩⟩)
  · have hn : xs ≠ [] := fun z => ha (.inl z)
    have hk : k ≤ 0 := by
      have : ¬ 2 ≤ k := fun z => hb ⟨hn, z⟩
      have : k ≠ 1 := fun z => ha (.inr z)
      omega
    have hxe : xs.isEmpty = false := by cases xs with
      | nil => exact absurd rfl hn
      | cons => rfl
    have c1 : (its.toArray.isEmpty || k == 1) = false := by
      rw [he, hxe, Bool.false_or]
      exact beq_eq_false_iff_ne.mpr (by omega)
    have c2 : (decide (k ≤ 0) || its.toArray.isEmpty) = true := by rw [decide_eq_true hk, Bool.true_or]
    refine wpAny_binaryOp_repeat_ref (T := "tuple") (U := "int") (by decide) ⟨_, ho, rfl⟩ (fun s' => typeIs_int s' k t) noFill_tuple_mul F.fills_int_mul F.slot_int_rmul repeat_tuple F.slot_int_index.lookup
      (call_meets F.slot_int_rmul (typeIs_int s k t) F.entry_int_rmul (F.args_int_rmul_2 _ _) (int_rmul_tuple k t l its.toArray n dd sl)
        ⟨ho, rfl, ⟨_, ho, rfl⟩, call_meets F.slot_tuple_mul ⟨_, ho, rfl⟩ F.entry_tuple_mul (F.args_tuple_mul_2 _ _) (tuple_mul0 l its.toArray n k t c0 c1 c2 dd sl) ⟨ho, ?_⟩⟩)
    refine ⟨.ref s.heap.objs.size, _, I.laid (t' := s.toks) (o := .tup []) (fun b ob q => Heap.get?_push_of_some _ q) (Nat.le_refl _) ?_, rfl, q2 hn hk _ (I.hok.fresh (Nat.le_refl _))⟩
    exact ⟨Nat.zero_le _, [], .nil, IsTup.new _ _⟩
def arMulB (m : Mode) : AR := fun x y Ω Φ => match x, y with
  | .d (.tuple ds), .d (.int k) => -1000 ≤ k ∧ k ≤ 1000 ∧ ds.length ≤ 1000 ∧ Φ (.d (.tuple (repD ds k))) Ω
  | x, .d (.int k) => rdL x Ω fun ds => -(2 ^ 63) ≤ k ∧ k < 2 ^ 63 ∧ ds.length * k.toNat ≤ sizeLine ∧ newL m (repD ds k) Ω Φ
  | _, _ => False
theorem repD_nil (k : Int) : repD ([] : List PyData) k = [] := by
  unfold repD
  induction k.toNat with
  | zero => rfl
  | succ n ih => rw [List.replicate_succ, List.flatten_cons, ih]; rfl
theorem jo_mulB (hm : MOk (enX X G) m) : JOp X G (binaryOp .Mult) (arMulB m) := by
  refine ⟨_, OpR.or op_repA op_rep, ⟨fun {x y Ω Φ} h {P F H vx vy Q} o r1 r2 k => ?_⟩⟩
  unfold arMulB at h
  split at h
  · rename_i ds kk
    obtain ⟨p, vs, rfl, hF, da⟩ := dqt r1
    cases dqi r2
    obtain ⟨h1, h2, h3, h4⟩ := h
    refine Or.inl ⟨p, _, vs, rfl, rfl, sqt_same o.ex hF, h1, h2, by rw [dqa_len da]; exact h3, fun z => ?_, fun z1 z2 q hq => ?_, fun z1 z2 q hq => ?_⟩
    · refine k h4 o (Same.refl F) ?_
      have e : repD ds kk = ds := by
        rcases z with z | z
        · subst z
          cases da
          exact repD_nil _
        · subst z
          show (List.replicate 1 ds).flatten = ds
          rw [List.replicate_succ, List.flatten_cons]
          simp
      rw [e]
      exact r1
    · obtain ⟨o1, s1⟩ := o.newF (o := .tup []) hq
      have e : repD ds kk = [] := by
        unfold repD
        rw [show kk.toNat = 0 from by omega]
        rfl
      rw [e] at h4
      exact k h4 o1 s1 (Dq.tup (Or.inl (Or.inl upd_same)) .nil)
    · obtain ⟨o1, s1⟩ := o.newF (o := .tup (List.replicate _ vs).flatten) hq
      exact k h4 o1 s1 (Dq.tup (Or.inl (Or.inl upd_same)) (dqa_same s1 _ _ (dqa_rep da _)))
  · rename_i k' _
    obtain ⟨p, vs, ds, rfl, hs, da, h1, h2, h3, h4⟩ := rdL_ok h o r1
    cases dqi r2
    refine Or.inr ⟨p, _, vs, rfl, rfl, hs, h1, h2, by rw [dqa_len da]; exact h3, fun q hq => newL_ok hm o (dqa_rep da _) h4 k hq⟩
  · exact h.elim
end
/-! ### repr of data with dicts and no list -/
section
variable {X : Cx} {pins : List (Addr × Obj)} {σ : L2.St} {H : Hp} {s : Shared}
theorem key_reads {P : Program} {w : World} {h : Heap} (k : Key) (key : Value) (e : (mixKind P w).is k key = true) : Reads h key (keyD k) [] := by
  rw [mixKind_is] at e
  rcases keyIs_shape e with ⟨i, t, rfl, rfl⟩ | ⟨x, t, rfl, rfl⟩
  · exact Reads.int i t
  · exact Reads.str x t
mutual
theorem Dq.readsN (I : Inv X pins σ H s) : ∀ (d : PyData) (v : V) (u : Value), Dq X.K H v d → RelV v u → hasList d = false → ∃ as, Reads s.heap u d as ∧ sysModules ∉ as
  | .none, _, _, h, r, _ => by
    cases h
    cases r
    exact ⟨_, Reads.none, List.not_mem_nil⟩
  | .bool b, _, _, h, r, _ => by
    cases h
    cases r
    exact ⟨_, Reads.bool b, List.not_mem_nil⟩
  | .int i, _, _, h, r, _ => by
    cases h
    obtain ⟨t, rfl⟩ := r
    exact ⟨_, Reads.int i t, List.not_mem_nil⟩
  | .str x, _, _, h, r, _ => by
    cases h
    obtain ⟨t, rfl⟩ := r
    exact ⟨_, Reads.str x t, List.not_mem_nil⟩
  | .list ds, _, _, _, _, n => by simp [hasList] at n
  | .tuple ds, _, _, h, r, n => by
    cases h with
    | tup hs ha =>
      cases r
      obtain ⟨its, rv, ⟨o, ho, hc, n', hd⟩, _⟩ := I.tuple hs
      obtain ⟨as, hr, hm⟩ := DqAll.readsN I ds _ its ha rv (by rw [hasList] at n; exact n)
      exact ⟨_, Reads.tuple ho hc hd hr, hm⟩
  | .dict ds, _, _, h, r, n => by
    cases h with
    | dct hs ha =>
      cases r
      obtain ⟨z, hd, vs, rel, dd⟩ := dk_of I.hok hs
      obtain ⟨bs, hr, hm⟩ := DqKv.readsN I ds _ vs ha rel (by rw [hasList] at n; exact n)
      refine ⟨_, PyProof.V.reads_dictOf (fun k key e => key_reads k key e) dd hr, fun q => ?_⟩
      rcases List.mem_cons.mp q with q | q
      · rw [← q] at hd; exact absurd hd (by simp)
      · exact hm q
theorem DqAll.readsN (I : Inv X pins σ H s) : ∀ (ds : List PyData) (vs : List V) (us : List Value), DqAll X.K H vs ds → Vals vs us → hasListAll ds = false → ∃ as, ReadsAll s.heap us ds as ∧ sysModules ∉ as
  | [], _, _, h, r, _ => by
    cases h
    cases r
    exact ⟨_, ReadsAll.nil, List.not_mem_nil⟩
  | d :: ds, _, _, h, r, n => by
    rw [hasListAll, Bool.or_eq_false_iff] at n
    cases h with
    | cons h1 h2 =>
      cases r with
      | cons r1 r2 =>
        obtain ⟨as, x1, x2⟩ := Dq.readsN I d _ _ h1 r1 n.1
        obtain ⟨bs, y1, y2⟩ := DqAll.readsN I ds _ _ h2 r2 n.2
        exact ⟨_, ReadsAll.cons x1 y1, fun q => (List.mem_append.mp q).elim x2 y2⟩
theorem DqKv.readsN (I : Inv X pins σ H s) : ∀ (ds : List (PyData × PyData)) (kvs : List (Key × V)) (vs : List (Key × Value)), DqKv X.K H kvs ds → KV kvs vs → hasListKv ds = false → ∃ as, PyProof.V.PairsRead s.heap keyD vs ds as ∧ sysModules ∉ as
  | [], _, _, h, r, _ => by
    cases h
    cases r
    exact ⟨_, .nil, List.not_mem_nil⟩
  | (k, d) :: ds, _, _, h, r, n => by
    rw [hasListKv, Bool.or_eq_false_iff] at n
    cases h with
    | cons h1 h2 =>
      cases r with
      | @cons _ q _ _ r1 r2 =>
        obtain ⟨qk, qv⟩ := q
        obtain ⟨e, r1⟩ := r1
        cases (show _ = qk from e)
        obtain ⟨as, x1, x2⟩ := Dq.readsN I d _ _ h1 r1 n.1
        obtain ⟨bs, y1, y2⟩ := DqKv.readsN I ds _ _ h2 r2 n.2
        exact ⟨_, .cons x1 y1, fun q => (List.mem_append.mp q).elim x2 y2⟩
end
theorem call_reprN (hu : X.A.units + 64 < cLine) (hgd : X.A.guards = some []) : CallR X (.builtin "repr") (fun xs H Q => ∃ v d, xs = [v] ∧ Dq X.K H v d ∧ hasList d = false ∧ d.showable = true ∧ d.depth ≤ 60 ∧ d.shown.length ≤ sizeLine ∧ Q (.str d.shown) H) := by
  intro pins s σ H xs us Q I r h
  obtain ⟨v, d, rfl, hd, h2, h1, h3, h4, q⟩ := h
  obtain ⟨u, rfl, ru⟩ := vals1 r
  have big : ∀ {p : Addr} {as : List Addr}, Reads s.heap (.ref p) d as → sysModules ∉ as → u = .ref p → wpAny (model X.prog X.w) X.A (call (.builtin "repr") [u]) (EP X pins σ Q) X.xe s := fun {p as} rd nm e => by
    rw [e]
    exact repr_of_reads' rd h1 (fun _ => nm) hgd (by omega) (fun _ _ e => e) (fun h' u tk hk => ⟨.str d.shown, H, I.kept hk, ⟨_, rfl⟩, q⟩) h4
  cases d with
  | none =>
    cases hd
    cases ru
    exact PySem.P.repr_of_none ⟨.str _, H, I.tok _, ⟨_, rfl⟩, by simpa only [PyData.shown] using q⟩
  | bool b =>
    cases hd
    cases ru
    exact PySem.P.repr_of_bool ⟨.str _, H, I.tok _, ⟨_, rfl⟩, by simpa only [PyData.shown] using q⟩
  | int i =>
    cases hd
    obtain ⟨t, rfl⟩ := ru
    exact PySem.P.repr_of_int (by simpa [PyData.showable] using h1) ⟨.str _, H, I.tok _, ⟨_, rfl⟩, by simpa only [PyData.shown] using q⟩
  | str x =>
    cases hd
    obtain ⟨t, rfl⟩ := ru
    exact PySem.P.repr_of_str ⟨.str _, H, I.tok _, ⟨_, rfl⟩, by simpa only [PyData.shown] using q⟩ (by simpa only [PyData.shown] using h4)
  | list ds => simp [hasList] at h2
  | tuple ds =>
    obtain ⟨as, rd, nm⟩ := Dq.readsN I _ v u hd ru h2
    cases hd with
    | tup _ _ => cases ru; exact big rd nm rfl
  | dict kvs =>
    obtain ⟨as, rd, nm⟩ := Dq.readsN I _ v u hd ru h2
    cases hd with
    | dct _ _ => cases ru; exact big rd nm rfl
end
section
variable {X : Cx} {G : Gn} {m : Mode}
/-- repr of data that has no dict or no list in it -/
def fReprD (x : SV) (Ω : Om) (Φ : PhiE) : Prop := rdD x Ω fun d => (d.hasDict = false ∨ hasList d = false) ∧ d.showable = true ∧ d.depth ≤ 60 ∧ d.shown.length ≤ sizeLine ∧ Φ (.d (.str d.shown)) Ω
theorem callR_or {f : Value} {r r' : List V → Hp → VK → Prop} (h : CallR X f r) (h' : CallR X f r') : CallR X f (fun vs H Q => r vs H Q ∨ r' vs H Q) := by
  intro pins s σ H vs us Q I rl q
  rcases q with q | q
  · exact h pins s σ H vs us Q I rl q
  · exact h' pins s σ H vs us Q I rl q
theorem jc_reprD (hu : X.A.units + 64 < cLine) (hgd : X.A.guards = some []) : JC X G (.builtin "repr") (ac1 fReprD) := by
  refine ⟨_, callR_or (call_reprD hu hgd) (call_reprN hu hgd), ac1_ok fun {x Ω Φ} h {P F H v Q} o r k => ?_⟩
  obtain ⟨d, hd, hq, hh, h1, h3, h4, q⟩ := rdD_ok2 h o r
  rcases hh with hh | hh
  · exact .inl ⟨v, d, rfl, hd hh, h1, hh, h3, h4, k q o (Same.refl F) (.str _)⟩
  · exact .inr ⟨v, d, rfl, hq hh, hh, h1, h3, h4, k q o (Same.refl F) (.str _)⟩
/-! ### dict displays as data -/
def kvD (kvs : List Ent) : Option (List (PyData × PyData)) := match kvs with
  | [] => some []
  | (k, .d x) :: r => (kvD r).map fun ds => (keyD k, x) :: ds
  | _ => none
theorem kvD_ok {K : Frag} {F : Hp} : ∀ {kvs : List Ent} {ws : List (Key × V)} {ds : List (PyData × PyData)}, kvD kvs = some ds → RpD K F ws kvs → DqKv K F ws ds
  | [], _, ds, e, r => by
    cases r
    simp [kvD] at e
    subst e
    exact .nil
  | (k, .d x) :: kvs, _, ds, e, r => by
    cases r with
    | @cons w _ ws _ r1 r2 =>
      obtain ⟨wk, wv⟩ := w
      cases (show wk = k from r1.1)
      simp only [kvD, Option.map_eq_some_iff] at e
      obtain ⟨es, e1, rfl⟩ := e
      exact .cons r1.2 (kvD_ok e1 r2)
  | (k, .l x) :: kvs, _, ds, e, r => by simp [kvD] at e
  | (k, .r x) :: kvs, _, ds, e, r => by simp [kvD] at e
variable {e a b : Expr} {aa ab ac : AE} {pos : Pos}
/-- {..} of at most one pair (so that no key comes twice), as data -/
def aDispD (ps : List (Key × AE)) : AE := fun ρ Ω Φ => aPrs ps ρ Ω fun kvs Ω' => kvs.length ≤ 1 ∧ (match kvD kvs with | some ds => Φ (.d (.dict ds)) Ω' | none => False)
theorem mergeK_one {ws : List (Key × V)} (h : ws.length ≤ 1) : mergeK [] ws = ws := by
  match ws, h with
  | [], _ => rfl
  | [p], _ => rfl
theorem je_dispD {ks : List (Option Expr)} {vs : List Expr} {ps : List (Key × AE)} (h : JP (pos := pos) X G ks vs ps) (h1 : ks.all (·.isSome) = true) (h2 : ks.length = vs.length) (h3 : ks ≠ []) (h4 : ks.length ≤ 15) : JE X G (.Dict ks vs pos) (aDispD ps) := by
  obtain ⟨trs, p1, q1⟩ := h
  refine ⟨_, pe_disp p1 h1 h2 h3 h4, ⟨fun {ρ Ω Φ} h {P F H σ Q} o rp k => fun p hp => ?_⟩⟩
  have nP : P p = none := o.pf.free hp
  have nF : F p = none := o.ex.free hp
  have n0 : (enX X G).H0 p = none := o.dm p hp
  have nP0 : (enX X G).P0 p = none := o.p0.free nP
  refine q1.go h (o.guard (o := .dK []) hp) rp fun {ws kvs Ω' F' H'} z o' s r => ?_
  refine ⟨o'.pf p _ upd_same, ws, rfl, by rw [r.length]; exact Nat.le_trans z.1 (by decide), ?_⟩
  have nF' : F' p = none := o'.pF p (by rw [upd_same]; exact fun z => by cases z)
  have o2 := o'.poke (o' := .dK (mergeK [] ws)) nP0 nF' nP
  obtain ⟨o3, s3⟩ := o2.adoptF o.p0 nP n0
  obtain ⟨z1, z2⟩ := z
  split at z2
  · rename_i ds e
    refine k z2 o3 (s.trans s3) (Dq.dct (kvs := ws) ?_ (dqkv_same s3 _ _ (kvD_ok e r)))
    rw [upd_same, mergeK_one (by rw [r.length]; exact z1)]
  · exact z2.elim
/-- {} as data -/
def aDNewD : AE := fun _ Ω Φ => Φ (.d (.dict [])) Ω
theorem je_dnewD : JE X G (.Dict [] [] pos) aDNewD :=
  ⟨_, pe_dnewK, ⟨fun {ρ Ω Φ} h {P F H σ Q} o rp k => fun p hp => by
    obtain ⟨o1, s1⟩ := o.newF (o := .dK []) hp
    exact k h o1 s1 (Dq.dct upd_same .nil)⟩⟩
end
end Z
/-! Zl: powers of great ints. -/
namespace Z
open PySem PySem.Spec PyProof.Rows L2
def CPowX (i j : Int) : Prop := 0 ≤ j ∧ (Builtin.Int.intBits i : Int) * j ≤ 134217728
theorem op_powX {X : Cx} : OpR X (binaryOp .Pow) (rI CPowX fun i j => .int (i ^ j.toNat)) := opI fun _ _ _ _ _ _ _ hc q => pow_int hc.1 hc.2 q
abbrev arPowX : AR := arI CPowX fun i j => .int (i ^ j.toNat)
theorem jo_powX {X : Cx} {G : Gn} : JOp X G (binaryOp .Pow) arPowX := ⟨_, op_powX, arI_ok fun _ _ _ => .int _⟩
end Z
/-! Zm: repr of any data. -/
namespace Z
open PySem PySem.Spec PyProof.Rows L2
/-! ### data is read; where sys.modules is a dict no address of it is sys.modules' -/
section
variable {X : Cx} {pins : List (Addr × Obj)} {σ : L2.St} {H : Hp} {s : Shared}
abbrev MdD (h : Heap) : Prop := ∀ o, h.get? sysModules = some o → o.cls ≠ .type "dict"
abbrev Off (h : Heap) (as : List Addr) : Prop := MdD h ∨ sysModules ∉ as
theorem off_nil {h : Heap} : Off h [] := .inr List.not_mem_nil
theorem off_app {h : Heap} {as bs : List Addr} (x : Off h as) (y : Off h bs) : Off h (as ++ bs) := by
  rcases x with x | x
  · exact .inl x
  rcases y with y | y
  · exact .inl y
  exact .inr fun q => (List.mem_append.mp q).elim x y
theorem off_list {h : Heap} {a : Addr} {o : Obj} {as : List Addr} (ho : h.get? a = some o) (hc : o.cls = .type "list") (x : Off h as) : Off h (a :: as) := by
  rcases x with x | x
  · exact .inl x
  by_cases e : sysModules = a
  · refine .inl fun o' q => ?_
    rw [e, ho] at q
    cases q
    rw [hc]
    intro z
    exact absurd (Value.type.inj z) (by decide +kernel)
  · exact .inr fun q => (List.mem_cons.mp q).elim e x
theorem off_dict {h : Heap} {a : Addr} {as : List Addr} (n : a ≠ sysModules) (x : Off h as) : Off h (a :: as) := by
  rcases x with x | x
  · exact .inl x
  · exact .inr fun q => (List.mem_cons.mp q).elim (fun e => n e.symm) x
mutual
theorem Dq.readsO (I : Inv X pins σ H s) : ∀ (d : PyData) (v : V) (u : Value), Dq X.K H v d → RelV v u → ∃ as, Reads s.heap u d as ∧ Off s.heap as
  | .none, _, _, h, r => by cases h; cases r; exact ⟨_, Reads.none, off_nil⟩
  | .bool b, _, _, h, r => by cases h; cases r; exact ⟨_, Reads.bool b, off_nil⟩
  | .int i, _, _, h, r => by cases h; obtain ⟨t, rfl⟩ := r; exact ⟨_, Reads.int i t, off_nil⟩
  | .str x, _, _, h, r => by cases h; obtain ⟨t, rfl⟩ := r; exact ⟨_, Reads.str x t, off_nil⟩
  | .list ds, _, _, h, r => by
    cases h with
    | lst hs ha =>
      cases r
      obtain ⟨_, its, n, rv, ho⟩ := (show ObjOk X.prog X.w H s.heap _ (.lst _) from I.hok _ _ hs)
      obtain ⟨as, hr, hm⟩ := DqAll.readsO I ds _ its ha rv
      exact ⟨_, Reads.list (vs := its.toArray) ho rfl rfl hr, off_list ho rfl hm⟩
  | .tuple ds, _, _, h, r => by
    cases h with
    | tup hs ha =>
      cases r
      obtain ⟨its, rv, ⟨o, ho, hc, n', hd⟩, _⟩ := I.tuple hs
      obtain ⟨as, hr, hm⟩ := DqAll.readsO I ds _ its ha rv
      exact ⟨_, Reads.tuple ho hc hd hr, hm⟩
  | .dict ds, _, _, h, r => by
    cases h with
    | dct hs ha =>
      cases r
      obtain ⟨z, hd, vs, rel, dd⟩ := dk_of I.hok hs
      obtain ⟨bs, hr, hm⟩ := DqKv.readsO I ds _ vs ha rel
      exact ⟨_, PyProof.V.reads_dictOf (fun k key e => key_reads k key e) dd hr, off_dict (fun q => by rw [q] at hd; exact absurd hd (by simp)) hm⟩
theorem DqAll.readsO (I : Inv X pins σ H s) : ∀ (ds : List PyData) (vs : List V) (us : List Value), DqAll X.K H vs ds → Vals vs us → ∃ as, ReadsAll s.heap us ds as ∧ Off s.heap as
  | [], _, _, h, r => by cases h; cases r; exact ⟨_, ReadsAll.nil, off_nil⟩
  | d :: ds, _, _, h, r => by
    cases h with
    | cons h1 h2 =>
      cases r with
      | cons r1 r2 =>
        obtain ⟨as, x1, x2⟩ := Dq.readsO I d _ _ h1 r1
        obtain ⟨bs, y1, y2⟩ := DqAll.readsO I ds _ _ h2 r2
        exact ⟨_, ReadsAll.cons x1 y1, off_app x2 y2⟩
theorem DqKv.readsO (I : Inv X pins σ H s) : ∀ (ds : List (PyData × PyData)) (kvs : List (Key × V)) (vs : List (Key × Value)), DqKv X.K H kvs ds → KV kvs vs → ∃ as, PyProof.V.PairsRead s.heap keyD vs ds as ∧ Off s.heap as
  | [], _, _, h, r => by cases h; cases r; exact ⟨_, .nil, off_nil⟩
  | (k, d) :: ds, _, _, h, r => by
    cases h with
    | cons h1 h2 =>
      cases r with
      | @cons _ q _ _ r1 r2 =>
        obtain ⟨qk, qv⟩ := q
        obtain ⟨e, r1⟩ := r1
        cases (show _ = qk from e)
        obtain ⟨as, x1, x2⟩ := Dq.readsO I d _ _ h1 r1
        obtain ⟨bs, y1, y2⟩ := DqKv.readsO I ds _ _ h2 r2
        exact ⟨_, .cons x1 y1, off_app x2 y2⟩
end
end
/-! ### the text, where sys.modules is no dict -/
section
variable {h : Heap} {P : Program} {w : World}
def Tld (P : Program) (w : World) (h : Heap) (v : Value) (d : PyData) : Prop := ∃ bs, ReadAtMost h d.depth bs ∧ ReprK P w bs h d.depth v d.shown
def TldA (P : Program) (w : World) (h : Heap) (vs : List Value) (ds : List PyData) : Prop := ∃ bs, ReadAtMost h (PyData.depthAll ds) bs ∧ ReprAllK P w bs h (PyData.depthAll ds) vs (PyData.shownAll ds)
theorem fresh_of {a : Addr} {d : PyData} {as bs : List Addr} {n : Nat} (r : Reads h (.ref a) d as) (e : d.depth = n + 1) (b : ReadAtMost h n bs) : a ∉ bs ∧ ReadAtMost h d.depth (a :: bs) :=
  ⟨not_mem_of_deeper r (by omega) b, ReadAtMost.cons r (by omega) b⟩
theorem tld_is {v : Value} {d : PyData} (q : ReprIs P w v d.shown) : Tld P w h v d := ⟨[], fun _ z => (List.not_mem_nil z).elim, ReprK.of_is q [] h _⟩
theorem tld_list {a : Addr} {o : Obj} {vs : Array Value} {n : Nat} {xs : List PyData} {as : List Addr} (h1 : h.get? a = some o) (h2 : o.cls = .type "list") (h3 : o.data = .seq vs n) (h4 : ReadsAll h vs.toList xs as) (t : TldA P w h vs.toList xs) :
    Tld P w h (.ref a) (.list xs) := by
  obtain ⟨bs, b, k⟩ := t
  obtain ⟨na, b2⟩ := fresh_of (.list h1 h2 h3 h4) (by rw [PyData.depth]) b
  refine ⟨_, b2, ?_⟩
  rw [PyData.depth, PyData.shown]
  rcases vs with ⟨_ | ⟨x, l⟩⟩
  · have z := k.length_eq
    rw [show (PyData.shownAll xs) = [] from List.length_eq_zero_iff.mp z, show listText [] = "[]" from rfl]
    exact .listEmpty h1 h2 h3
  · refine .list h1 h2 h3 na (k.length_eq.trans rfl) ?_
    intro i y e
    refine k.item i y ?_
    rw [← e]
    exact (Array.getElem?_toList).symm ▸ rfl
theorem tld_tuple {a : Addr} {o : Obj} {vs : Array Value} {n : Nat} {xs : List PyData} {as : List Addr} (h1 : h.get? a = some o) (h2 : o.cls = .type "tuple") (h3 : o.data = .seq vs n) (h4 : ReadsAll h vs.toList xs as) (t : TldA P w h vs.toList xs) :
    Tld P w h (.ref a) (.tuple xs) := by
  obtain ⟨bs, b, k⟩ := t
  obtain ⟨na, b2⟩ := fresh_of (.tuple h1 h2 h3 h4) (by rw [PyData.depth]) b
  refine ⟨_, b2, ?_⟩
  rw [PyData.depth, PyData.shown]
  exact .tuple h1 h2 h3 na k
theorem two_of {es : List DictEntry} {kvs : List (PyData × PyData)} (t : TldA P w h (es.map (·.key)) (kvs.map (·.1))) (t' : TldA P w h (es.map (·.val)) (kvs.map (·.2))) :
    ∃ bs, ReadAtMost h (PyData.depthKv kvs) bs ∧ ReprEntriesK P w bs h (PyData.depthKv kvs) es (PyData.shownKv kvs) := by
  obtain ⟨b1, x1, k1⟩ := t
  obtain ⟨b2, x2, k2⟩ := t'
  have l1 := PyData.depthAll_keys_le kvs
  have l2 := PyData.depthAll_vals_le kvs
  refine ⟨b1 ++ b2, (x1.mono l1).append (x2.mono l2), ?_⟩
  rw [PyData.shownKv_eq]
  exact .of_two es _ _ (k1.more_le (fun _ => List.mem_append_left _) l1) (k2.more_le (fun _ => List.mem_append_right _) l2)
mutual
theorem rk (B : MdD h) : ∀ {v : Value} {d : PyData} {as : List Addr}, Reads h v d as → d.showable = true → d.shown.length ≤ sizeLine → Tld P w h v d
  | _, _, _, .none, _, _ => tld_is (by rw [PyData.shown]; exact .none)
  | _, _, _, .bool b, _, _ => tld_is (by rw [PyData.shown]; exact .bool b)
  | _, _, _, .int i t, x, _ => tld_is (by rw [PyData.shown]; rw [PyData.showable, decide_eq_true_eq] at x; exact .int t x)
  | _, _, _, .str c t, _, z => tld_is (by rw [PyData.shown] at z ⊢; exact .str c t z)
  | _, _, _, .list h1 h2 h3 h4, x, z => by
    rw [PyData.showable] at x
    rw [PyData.shown] at z
    exact tld_list h1 h2 h3 h4 (rkAll B h4 x fun t q => Nat.le_trans (listText_mem_le q) z)
  | _, _, _, .tuple h1 h2 h3 h4, x, z => by
    rw [PyData.showable] at x
    rw [PyData.shown] at z
    exact tld_tuple h1 h2 h3 h4 (rkAll B h4 x fun t q => Nat.le_trans (tupleText_mem_le q) z)
  | _, _, _, .dict (a := a) (kvs := kvs) h1 h2 h3 h4 h5, x, z => by
    rw [PyData.showable] at x
    rw [PyData.shown] at z
    obtain ⟨x1, x2⟩ := PyData.showableKv_split kvs x
    have f1 := rkAll B h4 x1 fun t q => by
      obtain ⟨p, y1, y2⟩ := PyData.shownKv_key_le kvs t q
      exact Nat.le_trans y2 (Nat.le_trans (dictText_mem_le y1) z)
    have f2 := rkAll B h5 x2 fun t q => by
      obtain ⟨p, y1, y2⟩ := PyData.shownKv_val_le kvs t q
      exact Nat.le_trans y2 (Nat.le_trans (dictText_mem_le y1) z)
    obtain ⟨bs, b, k⟩ := two_of f1 f2
    obtain ⟨na, b2⟩ := fresh_of (.dict h1 h2 h3 h4 h5) (by rw [PyData.depth]) b
    refine ⟨_, b2, ?_⟩
    rw [PyData.depth, PyData.shown]
    exact .dict h1 h2 h3 (beq_eq_false_iff_ne.mpr fun e => B _ (e ▸ h1) h2) na k
theorem rkAll (B : MdD h) : ∀ {vs : List Value} {ds : List PyData} {as : List Addr}, ReadsAll h vs ds as → PyData.showableAll ds = true → (∀ t ∈ PyData.shownAll ds, t.length ≤ sizeLine) → TldA P w h vs ds
  | _, _, _, .nil, _, _ => ⟨[], fun _ z => (List.not_mem_nil z).elim, .nil⟩
  | _, _, _, .cons (d := d) (ds := ds) r rs, x, z => by
    rw [PyData.showableAll, Bool.and_eq_true] at x
    rw [PyData.shownAll] at z
    obtain ⟨b1, y1, k1⟩ := rk B r x.1 (z _ (List.mem_cons_self ..))
    obtain ⟨b2, y2, k2⟩ := rkAll B rs x.2 fun t q => z t (List.mem_cons_of_mem _ q)
    have l1 : d.depth ≤ PyData.depthAll (d :: ds) := by rw [PyData.depthAll]; exact Nat.le_max_left ..
    have l2 : PyData.depthAll ds ≤ PyData.depthAll (d :: ds) := by rw [PyData.depthAll]; exact Nat.le_max_right ..
    refine ⟨b1 ++ b2, (y1.mono l1).append (y2.mono l2), ?_⟩
    rw [PyData.shownAll]
    exact .cons ((k1.more fun _ => List.mem_append_left _).level_le l1) (k2.more_le (fun _ => List.mem_append_right _) l2)
end
end
section
variable {X : Cx} {G : Gn}
theorem call_any {A : Around} {E : Value → Shared → Prop} {s : Shared} {Q : Value → Shared → Prop} {P : Program} {w : World} (B : MdD s.heap) {p : Addr} {d : PyData} {as : List Addr} (rd : Reads s.heap (.ref p) d as) (h1 : d.showable = true) (h4 : d.shown.length ≤ sizeLine) (hgd : A.guards = some []) (hu : A.units + (d.depth + 1) < cLine)
    (k : ∀ h' u tk, (∀ b o, s.heap.get? b = some o → h'.get? b = some o) → Q (.str d.shown u) { s with heap := h', toks := tk }) : wpAny (model P w) A (call (.builtin "repr") [.ref p]) Q E s := by
  have hu2 : A.in1.units + d.depth < cLine := by show A.units + 1 + d.depth < cLine; omega
  cases rd with
  | list g1 g2 g3 g4 =>
    rename_i o vs n xs as
    rw [PyData.showable] at h1
    rw [PyData.shown] at h4 k
    rw [PyData.depth] at hu2
    obtain ⟨bs, b, kk⟩ := rkAll (P := P) (w := w) B g4 h1 fun t q => Nat.le_trans (listText_mem_le q) h4
    obtain ⟨na, -⟩ := fresh_of (.list g1 g2 g3 g4) (by rw [PyData.depth]) b
    refine call_repr_slot (by omega) ⟨o, g1, g2⟩ F.slot_list_repr.toG ?_
    rcases vs with ⟨_ | ⟨x, l⟩⟩
    · have z := kk.length_eq
      rw [show (PyData.shownAll xs) = [] from List.length_eq_zero_iff.mp z, show listText [] = "[]" from rfl] at k
      exact call_list_repr_empty ⟨o, g1, g2⟩ g1 g3 ⟨_, _, rfl, k s.heap _ _ fun _ _ q => q⟩
    · refine call_list_reprK g1 g2 g3 na (kk.length_eq.trans rfl) ?_ hgd (fun b _ => Clear.nil b) hu2 (fun _ _ q => q) (fun h' u tk q => ⟨_, _, rfl, k h' u tk q⟩) h4
      intro i y e
      refine kk.item i y ?_
      rw [← e]
      exact (Array.getElem?_toList).symm ▸ rfl
  | tuple g1 g2 g3 g4 =>
    rename_i o vs n xs
    rw [PyData.showable] at h1
    rw [PyData.shown] at h4 k
    rw [PyData.depth] at hu2
    obtain ⟨bs, b, kk⟩ := rkAll (P := P) (w := w) B g4 h1 fun t q => Nat.le_trans (tupleText_mem_le q) h4
    obtain ⟨na, -⟩ := fresh_of (.tuple g1 g2 g3 g4) (by rw [PyData.depth]) b
    refine call_repr_slot (by omega) ⟨o, g1, g2⟩ F.slot_tuple_repr ?_
    exact call_tuple_reprK g1 g2 g3 na kk hgd (fun b _ => Clear.nil b) hu2 (fun _ _ q => q) (fun h' u tk q => ⟨_, _, rfl, k h' u tk q⟩) h4
  | dict g1 g2 g3 g4 g5 =>
    rename_i o es n kvs as bs
    rw [PyData.showable] at h1
    rw [PyData.shown] at h4 k
    rw [PyData.depth] at hu2
    obtain ⟨x1, x2⟩ := PyData.showableKv_split kvs h1
    have f1 := rkAll (P := P) (w := w) B g4 x1 fun t q => by
      obtain ⟨p, y1, y2⟩ := PyData.shownKv_key_le kvs t q
      exact Nat.le_trans y2 (Nat.le_trans (dictText_mem_le y1) h4)
    have f2 := rkAll (P := P) (w := w) B g5 x2 fun t q => by
      obtain ⟨p, y1, y2⟩ := PyData.shownKv_val_le kvs t q
      exact Nat.le_trans y2 (Nat.le_trans (dictText_mem_le y1) h4)
    obtain ⟨bs, b, kk⟩ := two_of f1 f2
    obtain ⟨na, -⟩ := fresh_of (.dict g1 g2 g3 g4 g5) (by rw [PyData.depth]) b
    refine call_repr_slot (by omega) ⟨o, g1, g2⟩ F.slot_dict_repr ?_
    exact call_dict_reprK g1 g2 g3 (beq_eq_false_iff_ne.mpr fun e => B _ (e ▸ g1) g2) na kk hgd (fun b _ => Clear.nil b) hu2 (fun _ _ q => q) (fun h' u tk q => ⟨_, _, rfl, k h' u tk q⟩) h4
theorem call_reprO (hu : X.A.units + 64 < cLine) (hgd : X.A.guards = some []) : CallR X (.builtin "repr") (fun xs H Q => ∃ v d, xs = [v] ∧ Dq X.K H v d ∧ d.showable = true ∧ d.depth ≤ 60 ∧ d.shown.length ≤ sizeLine ∧ Q (.str d.shown) H) := by
  intro pins s σ H xs us Q I r h
  obtain ⟨v, d, rfl, hd, h1, h3, h4, q⟩ := h
  by_cases fl : hasList d = false
  · exact call_reprN hu hgd pins s σ H [v] us Q I r ⟨v, d, rfl, hd, fl, h1, h3, h4, q⟩
  obtain ⟨u, rfl, ru⟩ := vals1 r
  obtain ⟨as, rd, off⟩ := Dq.readsO I d v u hd ru
  obtain ⟨p, rfl⟩ : ∃ p, u = .ref p := by
    cases rd with
    | list => exact ⟨_, rfl⟩
    | tuple => exact ⟨_, rfl⟩
    | dict => exact ⟨_, rfl⟩
    | _ => exact absurd rfl fl
  rcases off with off | off
  · exact call_any off rd h1 h4 hgd (by omega) fun h' u tk hk => ⟨.str d.shown, H, I.kept hk, ⟨_, rfl⟩, q⟩
  · exact repr_of_reads' rd h1 (fun _ => off) hgd (by omega) (fun _ _ e => e) (fun h' u tk hk => ⟨.str d.shown, H, I.kept hk, ⟨_, rfl⟩, q⟩) h4
/-- repr of any data -/
def rdO (x : SV) (Ω : Om) (k : PyData → Prop) : Prop := match x with
  | .d d => k d
  | .r (.ref a) => ∃ ds f, At Ω a (.lst ds) f ∧ k (.list ds)
  | _ => False
theorem rdO_ok {E : En} {P F H : Hp} {Ω : Om} {x : SV} {v : V} {k : PyData → Prop} (h : rdO x Ω k) (o : Ok E P F H Ω) (r : Rp E.K F v x) : ∃ d, Dq E.K H v d ∧ k d := by
  unfold rdO at h
  split at h
  · exact ⟨_, dq_same o.ex _ _ r, h⟩
  · obtain ⟨ds, f, t, h⟩ := h
    cases (show v = _ from r)
    obtain ⟨vs, hv, q⟩ := o.lst t
    exact ⟨_, .lst hv (dqa_same o.ex _ _ q), h⟩
  · exact h.elim
def fReprO (x : SV) (Ω : Om) (Φ : PhiE) : Prop := rdO x Ω fun d => d.showable = true ∧ d.depth ≤ 60 ∧ d.shown.length ≤ sizeLine ∧ Φ (.d (.str d.shown)) Ω
theorem jc_reprO (hu : X.A.units + 64 < cLine) (hgd : X.A.guards = some []) : JC X G (.builtin "repr") (ac1 fReprO) := by
  refine ⟨_, call_reprO hu hgd, ac1_ok fun {x Ω Φ} h {P F H v Q} o r k => ?_⟩
  obtain ⟨d, hq, h1, h3, h4, q⟩ := rdO_ok h o r
  exact ⟨v, d, rfl, hq, h1, h3, h4, k q o (Same.refl F) (.str _)⟩
end
end Z
/-! Zn: enumerate of a tuple. -/
namespace Z
open PySem PySem.Spec PyProof.Rows L2
section
variable {prog : Program} {w : World} {A : Around} {E : Value → Shared → Prop} {s : Shared}
theorem nextT_item {it t : Addr} {k : Nat} {vs : Array Value} {x : Value} {Q : Value → Shared → Prop} (hI : s.heap.IsTupleIter it t k) (hT : s.heap.IsTuple t vs) (hx : vs[k]? = some x)
    (q : ∀ h', h'.IsTupleIter it t (k + 1) → Heap.SameBut it s.heap h' → Q x { s with heap := h' }) : wpAny (model prog w) A (Builtin.SmallTypes.nextOf (.ref it)) Q E s := by
  obtain ⟨oi, gi, ci, di⟩ := id hI
  obtain ⟨ot, gt, _, nt, dt⟩ := hT
  unfold Builtin.SmallTypes.nextOf
  refine wpAny_bind (wpAny_callSpecial?_slot (name := Str.ofString "__next__") hI.typeIs F.slot_tuple_iterator_next (wpAny_call_entry F.slot_tuple_iterator_next hI.typeIs F.entry_tuple_iterator_next ?_ (F.args_tuple_iterator_next_1 _)))
  show wpAny _ _ (field (.ref it) 0 >>= fun _ => _) _ _ s
  refine wpAny_bind (wpAny_field gi di (x := .ref t) rfl ?_)
  show wpAny _ _ (ite ((Value.ref t == Value.none) = true) _ _) _ _ s
  have nn : ¬ (Value.ref t == Value.none) = true := Bool.false_ne_true
  rw [if_neg nn]
  show wpAny _ _ (field (.ref it) 1 >>= fun _ => _) _ _ s
  refine wpAny_bind (wpAny_field gi di (x := .int k 0) rfl ?_)
  show wpAny _ _ (seqItems? (.ref t) >>= fun _ => _) _ _ s
  refine wpAny_bind (wpAny_seqItems gt dt ?_)
  simp only [hx, Int.toNat_natCast]
  refine wpAny_bind (wpAny_setField gi di (by simp) (wpAny_pure ⟨x, rfl, wpAny_pure (q _ ⟨_, Heap.get?_update_self _ gi (Obj.isFreed_of_fields (Obj.data_mapFields di _)), (Obj.cls_mapFields ..).trans ci, ?_⟩ (Heap.SameBut.update ..))⟩))
  rw [Obj.data_mapFields di]; simp [rawInt]
theorem nextT_end {it t : Addr} {k : Nat} {vs : Array Value} {Q : Value → Shared → Prop} (hh : A.handled = none) (hI : s.heap.IsTupleIter it t k) (hT : s.heap.IsTuple t vs) (hx : vs[k]? = none)
    (q : ∀ h' e, Heap.ExtBut it s.heap h' → (∃ o, h'.get? e = some o ∧ o.cls = .type "StopIteration") → E (.ref e) { s with heap := h' }) : wpAny (model prog w) A (Builtin.SmallTypes.nextOf (.ref it)) Q E s := by
  obtain ⟨oi, gi, ci, di⟩ := id hI
  obtain ⟨ot, gt, _, nt, dt⟩ := hT
  unfold Builtin.SmallTypes.nextOf
  refine wpAny_bind (wpAny_callSpecial?_slot (name := Str.ofString "__next__") hI.typeIs F.slot_tuple_iterator_next (wpAny_call_entry F.slot_tuple_iterator_next hI.typeIs F.entry_tuple_iterator_next ?_ (F.args_tuple_iterator_next_1 _)))
  show wpAny _ _ (field (.ref it) 0 >>= fun _ => _) _ _ s
  refine wpAny_bind (wpAny_field gi di (x := .ref t) rfl ?_)
  show wpAny _ _ (ite ((Value.ref t == Value.none) = true) _ _) _ _ s
  have nn : ¬ (Value.ref t == Value.none) = true := Bool.false_ne_true
  rw [if_neg nn]
  show wpAny _ _ (field (.ref it) 1 >>= fun _ => _) _ _ s
  refine wpAny_bind (wpAny_field gi di (x := .int k 0) rfl ?_)
  show wpAny _ _ (seqItems? (.ref t) >>= fun _ => _) _ _ s
  refine wpAny_bind (wpAny_seqItems gt dt ?_)
  simp only [hx, Int.toNat_natCast]
  refine wpAny_bind (wpAny_rule (wpAny_bind (wpAny_setField gi di (by simp) ?_)))
  show wpAny _ _ (newExc (.type "StopIteration") [] >>= fun _ => _) _ _ _
  refine wpAny_bind ?_
  simp only [newTuple, newExc]
  refine wpAny_bind (wpAny_newObj_type ?_ (by first | size_fits | exact trivial))
  refine wpAny_bind (m := firstArgMember _ _) (wpAny_of_eq (a := .none) (by first | rfl | (simp only [firstArgMember]; rfl)) ?_)
  refine wpAny_newObj_type ?_ (by first | size_fits | exact trivial)
  simp only [raiseNew]
  refine wpAny_bind (wpAny_handled ?_)
  first | rw [hh] | rw [show A.in1.handled = none from hh]
  refine wpAny_bind (wpAny_pure (wpAny_throw ?_))
  exact q _ _ (((Heap.SameBut.update ..).extBut.push _).push _) ⟨_, Heap.get?_push_size _ rfl, rfl⟩
/-- the heap after one item: the tuple of number and item is there, all but e and it stay -/
structure Got (s : Shared) (e it t : Addr) (k : Nat) (x : Value) (h : Heap) : Prop where
  en : IsEnumOut h e it ((k : Int) + 1) x s.heap.objs.size
  itr : h.IsTupleIter it t (k + 1)
  tup : h.get? s.heap.objs.size = some { cls := .type "tuple", data := .seq #[.int k s.toks, x] }
  sz : h.objs.size = s.heap.objs.size + 1
  oth : ∀ b o, b ≠ e → b ≠ it → s.heap.get? b = some o → h.get? b = some o
theorem enT_item {e it t : Addr} {k : Nat} {vs : Array Value} {x old : Value} {Q : Value → Shared → Prop} (hE : IsEnum s.heap e it k old) (hI : s.heap.IsTupleIter it t k) (hT : s.heap.IsTuple t vs) (hx : vs[k]? = some x) (ne : e ≠ it)
    (q : ∀ h', Got s e it t k x h' → Q (.ref s.heap.objs.size) { s with heap := h', toks := s.toks + 1 }) :
    wpAny (model prog w) A (Builtin.«enumerate.__next__» ⟨[.ref e], []⟩) (fun fin s' => ∃ v, fin = .done (.ret v) ∧ Q v s') E s := by
  obtain ⟨hp, gs, ds, tk, os⟩ := s
  have hE : IsEnum hp e it k old := hE
  show wpAny _ _ (field (.ref e) 2 >>= fun _ => _) _ _ _
  refine wpAny_bind (wpAny_field hE rfl (x := .ref it) rfl ?_)
  refine wpAny_bind (nextT_item hI hT hx fun ha i1 s1 => ?_)
  replace s1 : Heap.SameBut it hp ha := s1
  have e1 : IsEnum ha e it k old := (s1.2 e ne).trans hE
  show wpAny _ _ (field (.ref e) 3 >>= fun _ => _) _ _ ⟨ha, gs, ds, tk, os⟩
  refine wpAny_bind (wpAny_field e1 rfl (x := rawInt k) rfl ?_)
  show wpAny _ _ (field (.ref e) 4 >>= fun _ => _) _ _ ⟨ha, gs, ds, tk, os⟩
  refine wpAny_bind (wpAny_field e1 rfl (x := .none) rfl ?_)
  show wpAny _ _ (mkInt k >>= fun _ => _) _ _ ⟨ha, gs, ds, tk, os⟩
  refine wpAny_bind (wpAny_mkInt ?_)
  show wpAny _ _ (setField (.ref e) 3 (rawInt ((k : Int) + 1)) >>= fun _ => _) _ _ ⟨ha, gs, ds, tk + 1, os⟩
  refine wpAny_bind (wpAny_setField_rec e1 (by simp) fun hb e2 s2 => ?_)
  replace s2 : Heap.SameBut e ha hb := s2
  replace e2 : IsEnum hb e it ((k : Int) + 1) old := e2
  show wpAny _ _ (setField (.ref e) 4 .none >>= fun _ => _) _ _ ⟨hb, gs, ds, tk + 1, os⟩
  refine wpAny_bind (wpAny_setField_rec e2 (by simp) fun hc e3 s3 => ?_)
  replace s3 : Heap.SameBut e hb hc := s3
  replace e3 : IsEnum hc e it ((k : Int) + 1) old := e3
  show wpAny _ _ (newTuple [.int k tk, x] >>= fun _ => _) _ _ ⟨hc, gs, ds, tk + 1, os⟩
  refine wpAny_bind (wpAny_newTuple ?_)
  have zc : hc.objs.size = hp.objs.size := by rw [s3.1, s2.1, s1.1]
  obtain ⟨hd, ed⟩ : ∃ hd, hd = hc.push { cls := .type "tuple", data := .seq #[.int k tk, x] } := ⟨_, rfl⟩
  have e4 : IsEnum hd e it ((k : Int) + 1) old := by rw [ed]; exact Heap.get?_push_of_some _ e3
  have t4 : hd.get? hp.objs.size = some { cls := .type "tuple", data := .seq #[.int k tk, x] } := by rw [ed, ← zc]; exact Heap.get?_push_size _ rfl
  have z4 : hd.objs.size = hp.objs.size + 1 := by rw [ed, Heap.size_push, zc]
  have o4 : ∀ b o, b ≠ e → b ≠ it → hp.get? b = some o → hd.get? b = some o := fun b o q1 q2 g => by
    rw [ed]
    exact Heap.get?_push_of_some _ (s3.extBut b o q1 (s2.extBut b o q1 (s1.extBut b o q2 g)))
  have i4 : hd.IsTupleIter it t (k + 1) := by
    obtain ⟨o, g, r⟩ := (i1.extBut s2.extBut ne.symm).extBut s3.extBut ne.symm
    rw [ed]
    exact ⟨o, Heap.get?_push_of_some _ g, r⟩
  have en : e < hp.objs.size := Heap.lt_size hE
  rw [← ed, zc]
  show wpAny _ _ (Builtin.SmallTypes.ownedTupleIsFree (.ref e) >>= fun _ => _) _ _ ⟨hd, gs, ds, tk + 1, os⟩
  clear ed s3 e3 s2 e2 s1 e1 i1 zc hc hb ha
  refine wpAny_bind ?_
  unfold Builtin.SmallTypes.ownedTupleIsFree
  refine wpAny_bind (wpAny_field e4 rfl (x := .none) rfl (wpAny_pure ?_))
  simp only [if_true]
  refine wpAny_bind (wpAny_rule ?_)
  refine wpAny_bind (wpAny_field e4 rfl (x := old) rfl ?_)
  refine wpAny_bind (wpAny_setField_rec e4 (by simp) fun h5 e5 s5 => ?_)
  have s5 : Heap.SameBut e hd h5 := s5
  have e5 : IsEnum h5 e it ((k : Int) + 1) x := e5
  show wpAny _ _ (Builtin.SmallTypes.ownedTupleHandOut (.ref e) (.ref hp.objs.size) >>= fun _ => _) _ _ ⟨h5, gs, ds, tk + 1, os⟩
  refine wpAny_bind ?_
  unfold Builtin.SmallTypes.ownedTupleHandOut
  refine wpAny_bind (wpAny_setField_rec e5 (by simp) fun h6 e6 s6 => ?_)
  have s6 : Heap.SameBut e h5 h6 := s6
  have e6 : IsEnumOut h6 e it ((k : Int) + 1) x hp.objs.size := e6
  refine wpAny_setField_rec e6 (by simp) fun h7 e7 s7 => ?_
  have s7 : Heap.SameBut e h6 h7 := s7
  have up : ∀ b o, b ≠ e → hd.get? b = some o → h7.get? b = some o := fun b o q1 g => s7.extBut b o q1 (s6.extBut b o q1 (s5.extBut b o q1 g))
  refine wpAny_bind (wpAny_letGo (wpAny_pure ⟨_, rfl, q h7 ⟨e7, ?_, up _ _ (Nat.ne_of_gt en) t4, ?_, fun b o q1 q2 g => up b o q1 (o4 b o q1 q2 g)⟩⟩))
  · obtain ⟨o, g, r⟩ := i4
    exact ⟨o, up _ _ ne.symm g, r⟩
  · rw [s7.1, s6.1, s5.1, z4]
theorem pyNextT_item {e it t : Addr} {k : Nat} {vs : Array Value} {x old : Value} {Q : Option Value → Shared → Prop} (hE : IsEnum s.heap e it k old) (hI : s.heap.IsTupleIter it t k) (hT : s.heap.IsTuple t vs) (hx : vs[k]? = some x) (ne : e ≠ it)
    (q : ∀ h', Got s e it t k x h' → Q (some (.ref s.heap.objs.size)) { s with heap := h', toks := s.toks + 1 }) : wpAny (model prog w) A (pyNext (.ref e)) Q E s := by
  have ty : s.TypeIs (.ref e) "enumerate" := ⟨_, hE, rfl⟩
  unfold pyNext
  refine wpAny_bind (wpAny_attempt (wpAny_callSpecial?_slot (name := Str.ofString "__next__") ty F.slot_enumerate_next (wpAny_call_entry F.slot_enumerate_next ty F.entry_enumerate_next ?_ (F.args_enumerate_next_1 _))))
  exact enT_item hE hI hT hx ne fun h' g => wpAny_pure (q h' g)
theorem pyNextT_end {e it t : Addr} {k : Nat} {vs : Array Value} {old : Value} {Q : Option Value → Shared → Prop} (hh : A.handled = none) (hE : IsEnum s.heap e it k old) (hI : s.heap.IsTupleIter it t k) (hT : s.heap.IsTuple t vs) (hx : vs[k]? = none)
    (q : ∀ h', Heap.ExtBut it s.heap h' → Q none { s with heap := h' }) : wpAny (model prog w) A (pyNext (.ref e)) Q E s := by
  have ty : s.TypeIs (.ref e) "enumerate" := ⟨_, hE, rfl⟩
  unfold pyNext
  refine wpAny_bind (wpAny_attempt (wpAny_callSpecial?_slot (name := Str.ofString "__next__") ty F.slot_enumerate_next (wpAny_call_entry F.slot_enumerate_next ty F.entry_enumerate_next ?_ (F.args_enumerate_next_1 _))))
  show wpAny _ _ (field (.ref e) 2 >>= fun _ => _) _ _ _
  refine wpAny_bind (wpAny_field hE rfl (x := .ref it) rfl ?_)
  refine wpAny_bind (nextT_end hh hI hT hx fun h' y x1 ⟨o, g, c⟩ => ?_)
  exact wpAny_bind (wpAny_isInstance (T := "StopIteration") (b := true) ⟨o, g, c⟩ isSubtype_stop (wpAny_pure (q _ x1)))
theorem meets_enT (l : Addr) (vs : Array Value) (n : Nat) (dct : Option Addr) (sl : Array (Option Value)) :
    Meets (Builtin.«enumerate.__new__» ⟨[.type "enumerate", .ref l], []⟩) (fun _ R s => s.heap.get? l = some { cls := .type "tuple", dict := dct, data := .seq vs n, slots := sl } ∧
      R (.ok (.ret (.ref (s.heap.push { cls := .type "tuple_iterator", data := .fields #[.ref l, .int 0 0] }).objs.size)))
        { s with heap := (s.heap.push { cls := .type "tuple_iterator", data := .fields #[.ref l, .int 0 0] }).push { cls := .type "enumerate", data := .fields #[.none, .bool false, .ref s.heap.objs.size, rawInt 0, .none, .none] } }) :=
  .of_wp fun prog w A R s h => by
    obtain ⟨hp, g, d, tk, os⟩ := s
    obtain ⟨hl, h⟩ := h
    have hsub := sub_enumerate
    have hL : Heap.IsTuple (Shared.heap ⟨hp, g, d, tk, os⟩) l vs := ⟨_, hl, rfl, n, rfl⟩
    wp_walk using AutoSeq1.wpAny_loadPart' hl
    refine wpAny_stack_any fun st => wpAny_pure ?_
    split
    · rename_i c _ _ _ _ _
      cases (c == Value.type "enumerate")
      all_goals
        wp_walk using AutoSeq1.wpAny_loadPart' hl, wpAny_pyIter_tuple hL
        exact ⟨_, rfl, h⟩
    · wp_walk using AutoSeq1.wpAny_loadPart' hl, wpAny_pyIter_tuple hL
      exact ⟨_, rfl, h⟩
theorem call_enT {l : Addr} {vs : Array Value} {Q : Value → Shared → Prop} (hL : s.heap.IsTuple l vs)
    (q : ∀ h', IsEnum h' (s.heap.objs.size + 1) s.heap.objs.size 0 .none → h'.IsTupleIter s.heap.objs.size l 0 → (∀ b o, s.heap.get? b = some o → h'.get? b = some o) → Q (.ref (s.heap.objs.size + 1)) { s with heap := h' }) :
    wpAny (model prog w) A (call (.type "enumerate") [.ref l]) Q E s := by
  obtain ⟨⟨c, dct, dt, sl⟩, hl, hc, n, hd⟩ := hL
  cases (show c = .type "tuple" from hc)
  cases (show dt = .seq vs n from hd)
  refine callType_new F.called_enumerate (by decide) (F.typeCall_enumerate_1 _) (F.newCall_enumerate_1 _) (fun o => F.args_object_init_2 o _) F.entry_enumerate_new (meets_enT l vs n dct sl) ⟨hl, ?_⟩
  obtain ⟨h1, e1⟩ : ∃ h1, h1 = s.heap.push { cls := .type "tuple_iterator", data := .fields #[.ref l, .int 0 0] } := ⟨_, rfl⟩
  have z : h1.objs.size = s.heap.objs.size + 1 := by rw [e1]; exact Heap.size_push ..
  have g1 : h1.IsTupleIter s.heap.objs.size l 0 := by rw [e1]; exact ⟨_, Heap.get?_push_size _ rfl, rfl, rfl⟩
  have k1 : ∀ b o, s.heap.get? b = some o → h1.get? b = some o := fun b o x => by rw [e1]; exact Heap.get?_push_of_some _ x
  rw [← e1]
  clear e1
  obtain ⟨h2, e2⟩ : ∃ h2, h2 = h1.push { cls := .type "enumerate", data := .fields #[.none, .bool false, .ref s.heap.objs.size, rawInt 0, .none, .none] } := ⟨_, rfl⟩
  have g2 : IsEnum h2 (s.heap.objs.size + 1) s.heap.objs.size 0 .none := by rw [e2, ← z]; exact Heap.get?_push_size _ rfl
  have k2 : ∀ b o, h1.get? b = some o → h2.get? b = some o := fun b o x => by rw [e2]; exact Heap.get?_push_of_some _ x
  obtain ⟨o3, g3, r3⟩ := g1
  show _ ∧ _
  rw [z, ← e2]
  exact ⟨⟨_, g2, rfl⟩, q _ g2 ⟨o3, k2 _ _ g3, r3⟩ fun b o x => k2 _ _ (k1 _ _ x)⟩
end
/-- the tuple at a, each item in a new pair -/
def ItT (K : PySem.W.Frag) (a : Addr) : It :=
  ⟨fun i H => ∃ (xs : List V) (x : V), SqT K H a xs ∧ xs[i]? = some x, fun i H v H' => ∃ T x, v = .ref T ∧ H T = none ∧ H' = upd H T (.tup [.int (i : Nat), x]) ∧ ∀ xs, SqT K H a xs → xs[i]? = some x, fun i H => ∃ xs : List V, SqT K H a xs ∧ xs.length ≤ i⟩
theorem turnT {P : Program} {w : World} {K : PySem.W.Frag} {elts : List Expr} {kk : Nat} {tpos : Pos} (a e it : Addr) : Turn P w K (.Tuple elts kk tpos) (ItT K a) [e, it] e (fun i h => (∃ old, IsEnum h e it ((i : Nat) : Int) old) ∧ h.IsTupleIter it a i ∧ e ≠ it) where
  mem := List.mem_cons_self
  obj := by
    rintro i h ⟨⟨old, g1⟩, ⟨o, g2, hc, hd⟩, -⟩ b hb
    rcases List.mem_cons.mp hb with z | hb
    · exact ⟨_, z ▸ g1, fun v q => by cases q⟩
    · have z := List.mem_singleton.mp hb
      exact ⟨o, z ▸ g2, fun v q => by rw [hd] at q; cases q⟩
  keep := by
    rintro i h h' ⟨⟨old, g1⟩, ⟨o, g2, r⟩, ne⟩ k
    exact ⟨⟨old, k e (by simp) _ g1⟩, ⟨o, k it (by simp) _ g2, r⟩, ne⟩
  item := by
    intro X hP hw hK hc i pins s σ H E I hf st hg
    subst hP hw hK
    obtain ⟨⟨old, g1⟩, g2, ne⟩ := st
    obtain ⟨xs, x, hq, hx⟩ := hg
    obtain ⟨its, rv, p, hz⟩ := I.tuple hq
    obtain ⟨u, hu, ru⟩ := rv.get hx
    have le : e < s.heap.objs.size := Heap.lt_size g1
    have li : it < s.heap.objs.size := by obtain ⟨_, q, _⟩ := g2; exact Heap.lt_size q
    refine pyNextT_item g1 g2 (show s.heap.IsTuple a its.toArray from p) (x := u) (by simpa using hu) ne fun h' G => ⟨_, rfl, ?_⟩
    refine wpAny_letOwnedTupleGo_enum (s := { s with heap := h', toks := s.toks + 1 }) G.en fun h'' e' sb => ?_
    have t2 : h''.get? s.heap.objs.size = some { cls := .type "tuple", data := .seq #[.int i s.toks, u] } := (sb.2 _ (Nat.ne_of_gt le)).trans G.tup
    have new : ObjOk X.prog X.w (upd H s.heap.objs.size (.tup [.int (i : Nat), x])) h'' s.heap.objs.size (.tup [.int (i : Nat), x]) :=
      ⟨(by decide : 2 ≤ sizeLine), [.int i s.toks, u], .cons ⟨_, rfl⟩ (.cons ru .nil), ⟨_, t2, rfl, _, rfl⟩⟩
    have up : ∀ b o, b ∉ [e, it] → s.heap.get? b = some o → h''.get? b = some o := fun b o hb g => by
      have q1 : b ≠ e := fun z => hb (by simp [z])
      exact (sb.2 b q1).trans (G.oth b o q1 (fun z => hb (by simp [z])) g)
    have I1 : Inv X pins σ (upd H s.heap.objs.size (.tup [.int (i : Nat), x])) { s with heap := h'', toks := s.toks + 1 } := I.turnedNew (ch := [e, it]) up hf (Nat.le_refl _) new
    refine ⟨.ref s.heap.objs.size, _, I1, rfl, ⟨_, x, rfl, I.hok.fresh (Nat.le_refl _), rfl, fun ys hy => by rw [I.tuple_inj hy hq]; exact hx⟩, ⟨⟨u, ?_⟩, ?_, ne⟩, fun b hb => ?_⟩
    · rw [show ((i + 1 : Nat) : Int) = (i : Int) + 1 by omega]
      exact e'
    · obtain ⟨o, g, r⟩ := G.itr
      exact ⟨o, (sb.2 it ne.symm).trans g, r⟩
    · have lb : b < s.heap.objs.size := by
        rcases List.mem_cons.mp hb with z | hb'
        · exact z ▸ le
        · exact (List.mem_singleton.mp hb') ▸ li
      rw [upd_ne (Nat.ne_of_lt lb)]
      exact (hf b hb).1
  done := by
    intro X hP hw hK hc i pins s σ H E I hf st hg
    subst hP hw hK
    obtain ⟨⟨old, g1⟩, g2, ne⟩ := st
    obtain ⟨xs, hq, hx⟩ := hg
    obtain ⟨its, rv, p, hz⟩ := I.tuple hq
    obtain ⟨f0, f1, f2, f3, f4, f5⟩ := hf it (by simp)
    have hl := rv.length
    refine pyNextT_end (I.ok.hd hc) g1 g2 (show s.heap.IsTuple a its.toArray from p) (by simp; omega) fun h' eb => ⟨rfl, ?_⟩
    exact I.turned (t' := s.toks) (fun b o hb q => eb b o hb q) f0 f1 f3 f4 f5
  self := by
    rintro A i s Q E ⟨⟨_, g1⟩, _⟩ h
    exact wpAny_pyIter_enum g1 h
def iEnT (K : PySem.W.Frag) (ta : TA) : TI := fun σ H R => ta σ H fun vs H1 => ∃ a, vs = [.ref a] ∧ ((∃ xs, SqL K H1 a xs ∧ R (Ite K a) H1) ∨ ∃ xs, SqT K H1 a xs ∧ R (ItT K a) H1)
section
variable {X : Cx} {G : Gn} {e : Expr} {ta : TA} {aa : AA} {pos : Pos}
theorem pi_enT {p tpos : Pos} {elts : List Expr} {kk : Nat} (hg : Gl X "enumerate") (hm : X.mg "enumerate" = none) (ha : PA X [e] ta) (hs : starEach [e] X.env = [(false, eval e X.env)] := by rfl) : PI X (.Tuple elts kk tpos) (.Call (.Name "enumerate" p) [e] [] pos) (iEnT X.K ta) := by
  constructor
  intro pins s σ H R I h
  refine Call_ (ld_blt I hg hm boot_enumerate (PyProof.Rows.callWith_type1 (thn (ha.run pos pins s σ H _ I h) fun us s1 ⟨vs, H1, I1, r1, q1⟩ => ?_) hs rfl))
  obtain ⟨a, ex, q⟩ := q1
  subst ex
  have fp : ∀ {h' : Heap} {tk : Tok}, (∀ b ∈ [s1.heap.objs.size + 1, s1.heap.objs.size], FpOk X pins H1 b) := fun {h' tk} b hb => by
    have le : s1.heap.objs.size ≤ b := by
      simp only [List.mem_cons, List.not_mem_nil, or_false] at hb
      omega
    exact I1.fpOk le (I1.hok.fresh le)
  cases r1 with
  | cons r rr =>
    cases rr
    cases r
    rcases q with ⟨xs, hq, q⟩ | ⟨xs, hq, q⟩
    · obtain ⟨its, rv, p', hz⟩ := I1.list hq
      refine call_enumerate_list p'.isList fun h' en hit hsz hk => wpAny_pyIter_enum en ?_
      exact ⟨s1.heap.objs.size + 1, [s1.heap.objs.size + 1, s1.heap.objs.size], _, _, H1, rfl, I1.kept (t' := s1.toks) hk, turn_enum a (s1.heap.objs.size + 1) s1.heap.objs.size, ⟨⟨.none, en⟩, hit, Nat.succ_ne_self _⟩, fp (h' := h') (tk := 0), q⟩
    · obtain ⟨its, rv, p', hz⟩ := I1.tuple hq
      refine call_enT (show s1.heap.IsTuple a its.toArray from p') fun h' en hit hk => wpAny_pyIter_enum en ?_
      exact ⟨s1.heap.objs.size + 1, [s1.heap.objs.size + 1, s1.heap.objs.size], _, _, H1, rfl, I1.kept (t' := s1.toks) hk, turnT a (s1.heap.objs.size + 1) s1.heap.objs.size, ⟨⟨.none, en⟩, hit, Nat.succ_ne_self _⟩, fp (h' := h') (tk := 0), q⟩
theorem itT_ok {E : En} {F0 : Hp} {p : Addr} {ds : List PyData} {vs : List V} (h1 : SqT E.K F0 p vs) (h2 : DqAll E.K F0 vs ds) : ItOk E F0 (ItT E.K p) (enD ds) kpT := by
  refine ⟨fun s o k hi => ?_, fun s o k yy e => ?_, fun s o k hi => ?_⟩
  · rw [enD_len, ← dqa_len h2] at hi
    exact ⟨vs, _, sqt_same o.ex (sqt_same s h1), List.getElem?_eq_getElem hi⟩
  · obtain ⟨T, x, rfl, n, rfl, y2⟩ := yy
    obtain ⟨d, hd, rfl⟩ := enD_get e
    obtain ⟨u, g1, g2⟩ := dqa_get (dqa_same s _ _ h2) hd
    have g3 := y2 vs (sqt_same o.ex (sqt_same s h1))
    rw [g1] at g3
    cases g3
    exact new_tup o n (.cons (.int _) (.cons g2 .nil))
  · rw [enD_len, ← dqa_len h2] at hi
    exact ⟨vs, sqt_same o.ex (sqt_same s h1), hi⟩
def aEnum2 (t : AA) : AI := fun ρ Ω Φ => t ρ Ω fun xs Ω' => match xs with
  | [.d (.list ds)] => Φ (enD ds) kpT Ω'
  | [.d (.tuple ds)] => Φ (enD ds) kpT Ω'
  | [.r (.ref p)] => ∃ ds f, At Ω' p (.lst ds) f ∧ Φ (enD ds) (kpAt p (.lst ds)) Ω'
  | _ => False
theorem ji_enum2 {p tpos : Pos} {elts : List Expr} {kk : Nat} (hg : Gl X "enumerate") (hm : X.mg "enumerate" = none) (ha : JA X G [e] aa) (hs : starEach [e] X.env = [(false, eval e X.env)] := by rfl) :
    JI X G (.Tuple elts kk tpos) (.Call (.Name "enumerate" p) [e] [] pos) (aEnum2 aa) := by
  obtain ⟨t, h1, h2⟩ := ha
  refine ⟨_, pi_enT hg hm h1 hs, ⟨fun {ρ Ω Φ} h {P F H σ R} o rp k => h2.go h o rp fun {vs svs Ω1 F1 H1} q o1 s1 r1 => ?_⟩⟩
  split at q
  · obtain ⟨v, rfl, r⟩ := pr1 r1
    obtain ⟨p, vs, rfl, hF, da⟩ := dql r
    exact ⟨p, rfl, .inl ⟨vs, SqL.of (o1.ex _ _ hF), k q o1 s1 (ite_ok fun s o _ => ⟨vs, SqL.of (o.ex _ _ (s _ _ hF)), dqa_same s _ _ da⟩)⟩⟩
  · obtain ⟨v, rfl, r⟩ := pr1 r1
    obtain ⟨p, vs, rfl, hF, da⟩ := dqt r
    exact ⟨p, rfl, .inr ⟨vs, sqt_same o1.ex hF, k q o1 s1 (itT_ok hF da)⟩⟩
  · obtain ⟨v, rfl, r⟩ := pr1 r1
    obtain ⟨ds, f, t, q⟩ := q
    cases (show v = _ from r)
    obtain ⟨vs, h3, h4⟩ := o1.lst t
    refine ⟨_, rfl, .inl ⟨vs, SqL.of h3, k q o1 s1 (ite_ok fun s o kk => ?_)⟩⟩
    obtain ⟨f', t'⟩ := kk
    obtain ⟨ws, h5, h6⟩ := o.lst t'
    exact ⟨ws, SqL.of h5, h6⟩
  · exact q.elim
/-! ### a list of the def's own is data from here on -/
def aFz (Fr : Addr → Prop) (i : Nat) (s : AS) : AS := fun D ρ Ω => match ρ[i]? with
  | some (some (.r (.ref p))) => ∃ ds f, At Ω p (.lst ds) f ∧ Fr p ∧ ∃ Ω2, Cut Ω p Ω2 ∧ s D (ρ.set i (some (.d (.list ds)))) Ω2
  | _ => False
theorem rpe_refine {K : Frag} {F : Hp} : ∀ {σ : L2.St} {ρ : Rho} (i : Nat) {x : SV} {v : V}, RpE K F σ ρ → σ[i]? = some (some v) → Rp K F v x → RpE K F σ (ρ.set i (some x))
  | _, _, _, _, _, .nil, e, _ => by simp at e
  | _, _, 0, x, v, .cons r t, e, q => by
    simp only [List.getElem?_cons_zero, Option.some.injEq] at e
    exact .cons ⟨v, e, q⟩ t
  | _, _, i + 1, x, v, .cons r t, e, q => .cons r (rpe_refine i t (by simpa using e) q)
theorem js_fz {st : Stmt} {s : AS} {i : Nat} (h : JS X G st s) : JS X G st (aFz (fun p => G.H0 p = none) i s) := by
  obtain ⟨ts, p1, q1⟩ := h
  refine ⟨ts, p1, ⟨fun {D ρ Ω} h {P F H σ D'} k o rp => ?_⟩⟩
  unfold aFz at h
  split at h
  · rename_i p e
    obtain ⟨ds, f, t, fr, Ω2, c, h⟩ := h
    obtain ⟨v, hv, r⟩ := rpe_get rp e
    cases (show v = _ from r)
    obtain ⟨nF, _⟩ := o.at_ t
    obtain ⟨vs, h1, h2⟩ := o.lst t
    obtain ⟨c1, c2⟩ := c.addr o.nd
    obtain ⟨o2, s2⟩ := o.frz (c := .lst ds) h1 fr nF (o.pd _ t.mem) c1 c2
    exact q1.go h (k.up s2) o2 (rpe_refine i (rpe_same s2 rp) hv (Dq.lst upd_same (dqa_same s2 _ _ h2)))
  · exact h.elim
end
end Z
/-! Zo: repr of data with long ints: nobody has set sys' bound of digits. -/
namespace Z
open PySem PySem.Spec PyProof.Rows L2
abbrev DgK (K : Frag) : Prop := PySem.W.nsIn K cStatics "sys.int_max_str_digits" = some none
def bigI (i : Int) : Bool := decide (i.natAbs.log2 < 12900)
mutual
def showB : PyData → Bool
  | .int i => bigI i
  | .list xs => showBAll xs
  | .tuple xs => showBAll xs
  | .dict kvs => showBKv kvs
  | _ => true
def showBAll : List PyData → Bool
  | [] => true
  | x :: xs => showB x && showBAll xs
def showBKv : List (PyData × PyData) → Bool
  | [] => true
  | (k, v) :: r => (showB k && showB v) && showBKv r
end
theorem showBKv_split : ∀ kvs : List (PyData × PyData), showBKv kvs = true → showBAll (kvs.map (·.1)) = true ∧ showBAll (kvs.map (·.2)) = true
  | [], _ => ⟨rfl, rfl⟩
  | (k, v) :: r, h => by
    rw [showBKv, Bool.and_eq_true, Bool.and_eq_true] at h
    obtain ⟨a, b⟩ := showBKv_split r h.2
    exact ⟨by show (showB k && showBAll (r.map (·.1))) = true; rw [h.1.1, a]; rfl, by show (showB v && showBAll (r.map (·.2))) = true; rw [h.1.2, b]; rfl⟩
section
variable {prog : Program} {w : World} {A : Around} {E : Value → Shared → Prop} {s : Shared} {K : Frag}
theorem bigI_lt {a : Int} (h : bigI a = true) : a.natAbs < 10 ^ 4300 := by
  have h : a.natAbs.log2 < 12900 := of_decide_eq_true h
  exact Nat.lt_of_lt_of_le (lt_of_log2 h) pow_lo
theorem no_limit {a : Int} {M : Model} {Q : Option Nat → Shared → Prop} (hK : K.In s.heap) (dg : DgK K) (h : bigI a = true) (q : Q none s) : wpAny M A (Builtin.overDigitLimit? a) Q E s := by
  have h : a.natAbs.log2 < 12900 := of_decide_eq_true h
  unfold Builtin.overDigitLimit?
  by_cases sm : a.natAbs.log2 < 1920
  · rw [if_pos sm]
    exact wpAny_pure q
  rw [if_neg sm]
  unfold Builtin.intMaxStrDigits
  refine wpAny_bind (wpAny_bind ((PySem.W.looks_nsIn hK dg).here (wpAny_pure ?_)))
  dsimp only
  rw [if_neg (show ¬(a.natAbs.log2 / 30 + 1 > 1000) by omega), if_pos (show (4300 == 0 || decide (a.natAbs.log2 < 3 * 4300)) = true by rw [decide_eq_true (show a.natAbs.log2 < 3 * 4300 by omega)]; rfl)]
  exact wpAny_pure q
theorem call_bigI {a : Int} {t : Tok} {Q : Value → Shared → Prop} (hK : K.In s.heap) (dg : DgK K) (h : bigI a = true) (q : Q (.str (toString a) s.toks) { s with toks := s.toks + 1 }) : wpAny (model prog w) A (call (.builtin "int.__repr__") [.int a t]) Q E s := by
  refine wpAny_call_entry F.slot_int_repr (typeIs_int s a t) F.entry_int_repr ?_ (F.args_int_repr_1 _)
  unfold Builtin.«int.__repr__»
  show wpAny _ _ (do let lim ← Builtin.overDigitLimit? a; _) _ _ s
  refine wpAny_bind (no_limit hK dg h ?_)
  exact wpAny_bind (wpAny_mkStr (wpAny_pure ⟨_, rfl, q⟩) (int_text_fits10 (bigI_lt h)))
theorem reprK_bigI {h : Heap} {a : Int} {t : Tok} (hK : K.In h) (dg : DgK K) (b : bigI a = true) (as : List Addr) (d : Nat) : ReprK prog w as h d (.int a t) (toString a) := by
  intro base hb A g E s Q _ _ hu hk0 hQ
  rw [pyReprUnder_leaf (v := .int a t) (by omega) (fun _ e => nomatch e)]
  unfold pyRepr
  refine wpAny_bind (wpAny_pyReprObj_slot (by omega) (typeIs_int s a t) F.slot_int_repr.toG (call_bigI (hK.keeps hk0) dg b ⟨_, _, rfl, ?_⟩))
  exact wpAny_pure (hQ s.heap _ fun _ _ e => e)
end
section
variable {h : Heap} {P : Program} {w : World} {K : Frag}
theorem off_l {as bs : List Addr} (x : Off h (as ++ bs)) : Off h as := x.imp id fun n q => n (List.mem_append_left _ q)
theorem off_r {as bs : List Addr} (x : Off h (as ++ bs)) : Off h bs := x.imp id fun n q => n (List.mem_append_right _ q)
theorem off_t {a : Addr} {bs : List Addr} (x : Off h (a :: bs)) : Off h bs := x.imp id fun n q => n (List.mem_cons_of_mem _ q)
theorem off_ne {a : Addr} {o : Obj} {bs : List Addr} (x : Off h (a :: bs)) (g : h.get? a = some o) (c : o.cls = .type "dict") : (a == sysModules) = false := by
  refine beq_eq_false_iff_ne.mpr fun e => ?_
  rcases x with x | x
  · exact x _ (e ▸ g) c
  · exact x (e ▸ List.mem_cons_self)
mutual
theorem rkB (hK : K.In h) (dg : DgK K) : ∀ {v : Value} {d : PyData} {as : List Addr}, Reads h v d as → Off h as → showB d = true → d.shown.length ≤ sizeLine → Tld P w h v d
  | _, _, _, .none, _, _, _ => tld_is (by rw [PyData.shown]; exact .none)
  | _, _, _, .bool b, _, _, _ => tld_is (by rw [PyData.shown]; exact .bool b)
  | _, _, _, .int i t, _, x, _ => ⟨[], fun _ z => (List.not_mem_nil z).elim, by rw [PyData.shown]; rw [showB] at x; exact reprK_bigI hK dg x _ _⟩
  | _, _, _, .str c t, _, _, z => tld_is (by rw [PyData.shown] at z ⊢; exact .str c t z)
  | _, _, _, .list h1 h2 h3 h4, o, x, z => by
    rw [showB] at x
    rw [PyData.shown] at z
    exact tld_list h1 h2 h3 h4 (rkBAll hK dg h4 (off_t o) x fun t q => Nat.le_trans (listText_mem_le q) z)
  | _, _, _, .tuple h1 h2 h3 h4, o, x, z => by
    rw [showB] at x
    rw [PyData.shown] at z
    exact tld_tuple h1 h2 h3 h4 (rkBAll hK dg h4 o x fun t q => Nat.le_trans (tupleText_mem_le q) z)
  | _, _, _, .dict (a := a) (kvs := kvs) h1 h2 h3 h4 h5, o, x, z => by
    rw [showB] at x
    rw [PyData.shown] at z
    obtain ⟨x1, x2⟩ := showBKv_split kvs x
    have f1 := rkBAll hK dg h4 (off_t (off_l o)) x1 fun t q => by
      obtain ⟨p, y1, y2⟩ := PyData.shownKv_key_le kvs t q
      exact Nat.le_trans y2 (Nat.le_trans (dictText_mem_le y1) z)
    have f2 := rkBAll hK dg h5 (off_r o) x2 fun t q => by
      obtain ⟨p, y1, y2⟩ := PyData.shownKv_val_le kvs t q
      exact Nat.le_trans y2 (Nat.le_trans (dictText_mem_le y1) z)
    obtain ⟨bs, b, k⟩ := two_of f1 f2
    obtain ⟨na, b2⟩ := fresh_of (.dict h1 h2 h3 h4 h5) (by rw [PyData.depth]) b
    refine ⟨_, b2, ?_⟩
    rw [PyData.depth, PyData.shown]
    exact .dict h1 h2 h3 (off_ne (off_l o) h1 h2) na k
theorem rkBAll (hK : K.In h) (dg : DgK K) : ∀ {vs : List Value} {ds : List PyData} {as : List Addr}, ReadsAll h vs ds as → Off h as → showBAll ds = true → (∀ t ∈ PyData.shownAll ds, t.length ≤ sizeLine) → TldA P w h vs ds
  | _, _, _, .nil, _, _, _ => ⟨[], fun _ z => (List.not_mem_nil z).elim, .nil⟩
  | _, _, _, .cons (d := d) (ds := ds) r rs, o, x, z => by
    rw [showBAll, Bool.and_eq_true] at x
    rw [PyData.shownAll] at z
    obtain ⟨b1, y1, k1⟩ := rkB hK dg r (off_l o) x.1 (z _ (List.mem_cons_self ..))
    obtain ⟨b2, y2, k2⟩ := rkBAll hK dg rs (off_r o) x.2 fun t q => z t (List.mem_cons_of_mem _ q)
    have l1 : d.depth ≤ PyData.depthAll (d :: ds) := by rw [PyData.depthAll]; exact Nat.le_max_left ..
    have l2 : PyData.depthAll ds ≤ PyData.depthAll (d :: ds) := by rw [PyData.depthAll]; exact Nat.le_max_right ..
    refine ⟨b1 ++ b2, (y1.mono l1).append (y2.mono l2), ?_⟩
    rw [PyData.shownAll]
    exact .cons ((k1.more fun _ => List.mem_append_left _).level_le l1) (k2.more_le (fun _ => List.mem_append_right _) l2)
end
end
section
variable {X : Cx} {G : Gn}
theorem call_anyB {A : Around} {E : Value → Shared → Prop} {s : Shared} {Q : Value → Shared → Prop} {P : Program} {w : World} {K : Frag} (hK : K.In s.heap) (dg : DgK K) {p : Addr} {d : PyData} {as : List Addr} (rd : Reads s.heap (.ref p) d as) (off : Off s.heap as) (h1 : showB d = true) (h4 : d.shown.length ≤ sizeLine) (hgd : A.guards = some []) (hu : A.units + (d.depth + 1) < cLine)
    (k : ∀ h' u tk, (∀ b o, s.heap.get? b = some o → h'.get? b = some o) → Q (.str d.shown u) { s with heap := h', toks := tk }) : wpAny (model P w) A (call (.builtin "repr") [.ref p]) Q E s := by
  have hu2 : A.in1.units + d.depth < cLine := by show A.units + 1 + d.depth < cLine; omega
  cases rd with
  | list g1 g2 g3 g4 =>
    rename_i o vs n xs as
    rw [showB] at h1
    rw [PyData.shown] at h4 k
    rw [PyData.depth] at hu2
    obtain ⟨bs, b, kk⟩ := rkBAll (P := P) (w := w) hK dg g4 (off_t off) h1 fun t q => Nat.le_trans (listText_mem_le q) h4
    obtain ⟨na, -⟩ := fresh_of (.list g1 g2 g3 g4) (by rw [PyData.depth]) b
    refine call_repr_slot (by omega) ⟨o, g1, g2⟩ F.slot_list_repr.toG ?_
    rcases vs with ⟨_ | ⟨x, l⟩⟩
    · have z := kk.length_eq
      rw [show (PyData.shownAll xs) = [] from List.length_eq_zero_iff.mp z, show listText [] = "[]" from rfl] at k
      exact call_list_repr_empty ⟨o, g1, g2⟩ g1 g3 ⟨_, _, rfl, k s.heap _ _ fun _ _ q => q⟩
    · refine call_list_reprK g1 g2 g3 na (kk.length_eq.trans rfl) ?_ hgd (fun b _ => Clear.nil b) hu2 (fun _ _ q => q) (fun h' u tk q => ⟨_, _, rfl, k h' u tk q⟩) h4
      intro i y e
      refine kk.item i y ?_
      rw [← e]
      exact (Array.getElem?_toList).symm ▸ rfl
  | tuple g1 g2 g3 g4 =>
    rename_i o vs n xs
    rw [showB] at h1
    rw [PyData.shown] at h4 k
    rw [PyData.depth] at hu2
    obtain ⟨bs, b, kk⟩ := rkBAll (P := P) (w := w) hK dg g4 off h1 fun t q => Nat.le_trans (tupleText_mem_le q) h4
    obtain ⟨na, -⟩ := fresh_of (.tuple g1 g2 g3 g4) (by rw [PyData.depth]) b
    refine call_repr_slot (by omega) ⟨o, g1, g2⟩ F.slot_tuple_repr ?_
    exact call_tuple_reprK g1 g2 g3 na kk hgd (fun b _ => Clear.nil b) hu2 (fun _ _ q => q) (fun h' u tk q => ⟨_, _, rfl, k h' u tk q⟩) h4
  | dict g1 g2 g3 g4 g5 =>
    rename_i o es n kvs as bs
    rw [showB] at h1
    rw [PyData.shown] at h4 k
    rw [PyData.depth] at hu2
    obtain ⟨x1, x2⟩ := showBKv_split kvs h1
    have f1 := rkBAll (P := P) (w := w) hK dg g4 (off_t (off_l off)) x1 fun t q => by
      obtain ⟨p, y1, y2⟩ := PyData.shownKv_key_le kvs t q
      exact Nat.le_trans y2 (Nat.le_trans (dictText_mem_le y1) h4)
    have f2 := rkBAll (P := P) (w := w) hK dg g5 (off_r off) x2 fun t q => by
      obtain ⟨p, y1, y2⟩ := PyData.shownKv_val_le kvs t q
      exact Nat.le_trans y2 (Nat.le_trans (dictText_mem_le y1) h4)
    obtain ⟨cs, b, kk⟩ := two_of f1 f2
    obtain ⟨na, -⟩ := fresh_of (.dict g1 g2 g3 g4 g5) (by rw [PyData.depth]) b
    refine call_repr_slot (by omega) ⟨o, g1, g2⟩ F.slot_dict_repr ?_
    exact call_dict_reprK g1 g2 g3 (off_ne (off_l off) g1 g2) na kk hgd (fun b _ => Clear.nil b) hu2 (fun _ _ q => q) (fun h' u tk q => ⟨_, _, rfl, k h' u tk q⟩) h4
theorem call_reprB (hu : X.A.units + 64 < cLine) (hgd : X.A.guards = some []) (dg : DgK X.K) : CallR X (.builtin "repr") (fun xs H Q => ∃ v d, xs = [v] ∧ Dq X.K H v d ∧ showB d = true ∧ d.depth ≤ 60 ∧ d.shown.length ≤ sizeLine ∧ Q (.str d.shown) H) := by
  intro pins s σ H xs us Q I r h
  obtain ⟨v, d, rfl, hd, h1, h3, h4, q⟩ := h
  obtain ⟨u, rfl, ru⟩ := vals1 r
  obtain ⟨as, rd, off⟩ := Dq.readsO I d v u hd ru
  have big : ∀ {p : Addr}, u = .ref p → wpAny (model X.prog X.w) X.A (call (.builtin "repr") [u]) (EP X pins σ Q) X.xe s := fun {p} e => by
    rw [e] at rd ⊢
    exact call_anyB I.kIn dg rd off h1 h4 hgd (by omega) fun h' u tk hk => ⟨.str d.shown, H, I.kept hk, ⟨_, rfl⟩, q⟩
  cases d with
  | none =>
    cases hd
    cases ru
    exact PySem.P.repr_of_none ⟨.str _, H, I.tok _, ⟨_, rfl⟩, by simpa only [PyData.shown] using q⟩
  | bool b =>
    cases hd
    cases ru
    exact PySem.P.repr_of_bool ⟨.str _, H, I.tok _, ⟨_, rfl⟩, by simpa only [PyData.shown] using q⟩
  | int i =>
    cases hd
    obtain ⟨t, rfl⟩ := ru
    rw [showB] at h1
    refine call_repr_slot (by omega) (typeIs_int s i t) F.slot_int_repr.toG (call_bigI I.kIn dg h1 ⟨_, _, rfl, .str _, H, I.tok _, ⟨_, rfl⟩, ?_⟩)
    rw [PyData.shown] at q
    exact q
  | str x =>
    cases hd
    obtain ⟨t, rfl⟩ := ru
    rw [PyData.shown] at h4 q
    exact PySem.P.repr_of_str ⟨.str _, H, I.tok _, ⟨_, rfl⟩, q⟩ h4
  | list ds => cases hd; cases ru; exact big rfl
  | tuple ds => cases hd; cases ru; exact big rfl
  | dict kvs => cases hd; cases ru; exact big rfl
def fReprB (x : SV) (Ω : Om) (Φ : PhiE) : Prop := rdO x Ω fun d => showB d = true ∧ d.depth ≤ 60 ∧ d.shown.length ≤ sizeLine ∧ Φ (.d (.str d.shown)) Ω
theorem jc_reprB (hu : X.A.units + 64 < cLine) (hgd : X.A.guards = some []) (dg : DgK X.K) : JC X G (.builtin "repr") (ac1 fReprB) := by
  refine ⟨_, call_reprB hu hgd dg, ac1_ok fun {x Ω Φ} h {P F H v Q} o r k => ?_⟩
  obtain ⟨d, hq, h1, h3, h4, q⟩ := rdO_ok h o r
  exact ⟨v, d, rfl, hq, h1, h3, h4, k q o (Same.refl F) (.str _)⟩
end
end Z
/-! Zp: what can be told as text, of any kind. -/
namespace Z
open PySem PySem.Spec PyProof.Rows L2
structure Rz (k L : Nat) (d : PyData) : Prop where
  sh : showB d = true
  dp : d.depth ≤ k
  ln : d.shown.length ≤ L
theorem Rz.mono {k L k' L' : Nat} {d : PyData} (h : Rz k L d) (h1 : k ≤ k') (h2 : L ≤ L') : Rz k' L' d := ⟨h.sh, Nat.le_trans h.dp h1, Nat.le_trans h.ln h2⟩
theorem Rz.repr {k L : Nat} {d : PyData} (h : Rz k L d) (hk : k ≤ 60) (hL : L ≤ 16777216) : showB d = true ∧ d.depth ≤ 60 ∧ d.shown.length ≤ sizeLine := by
  have e : sizeLine = 16777216 := by decide
  exact ⟨h.sh, Nat.le_trans h.dp hk, Nat.le_trans h.ln (by omega)⟩
theorem rz_int {i : Int} (h : i.natAbs.log2 < 1920) : Rz 0 2000 (.int i) := by
  refine ⟨by rw [showB, bigI]; exact decide_eq_true (by omega), by simp [PyData.depth], ?_⟩
  have := int_text_len_1921 h
  rw [PyData.shown]
  omega
theorem rz_i {i : Int} (h0 : -(2 ^ 240) < i) (h1 : i < 2 ^ 240) : Rz 0 2000 (.int i) := rz_int (by
  have := log2_lt (nat_bd h0 h1) (by decide)
  omega)
theorem rz_big {i : Int} (h : i.natAbs.log2 < 12900) : Rz 0 4301 (.int i) := by
  have b : bigI i = true := decide_eq_true h
  refine ⟨by rw [showB]; exact b, by simp [PyData.depth], ?_⟩
  rw [PyData.shown]
  show (Str.ofString (toString i)).length ≤ 4301
  rw [PySem.ofString_length]
  exact int_text_length_le10 (k := 4300) (by decide) (bigI_lt b)
theorem rz_none : Rz 0 2000 .none := ⟨rfl, by simp [PyData.depth], by rw [PyData.shown]; decide +kernel⟩
theorem rz_bool {b : Bool} : Rz 0 2000 (.bool b) := ⟨rfl, by simp [PyData.depth], by rw [PyData.shown]; cases b <;> decide +kernel⟩
theorem rz_str {x : Str} (h : (reprText x).length ≤ 2000) : Rz 0 2000 (.str x) := ⟨rfl, by simp [PyData.depth], by rw [PyData.shown]; exact h⟩
theorem rz_cps (s : String) : ∀ c ∈ (Str.ofString s).cps.toList, c < 16 ^ 8 := by
  intro c hc
  rw [Str.ofString_eq_toList, List.toList_toArray] at hc
  obtain ⟨ch, -, rfl⟩ := List.mem_map.mp hc
  exact ch.val.toNat_lt
theorem rz_text {i : Int} (h : i.natAbs.log2 < 1920) : Rz 0 20000 (.str (Str.ofString (toString i))) := by
  have l := int_text_len_1921 h
  have r := PySem.StrLaws.reprText_len _ (rz_cps (toString i))
  exact ⟨rfl, by simp [PyData.depth], by rw [PyData.shown]; omega⟩
theorem rz_all {k L : Nat} : ∀ {ds : List PyData}, (∀ d ∈ ds, Rz k L d) → showBAll ds = true ∧ PyData.depthAll ds ≤ k ∧ (PyData.shownAll ds).length = ds.length ∧ ∀ t ∈ PyData.shownAll ds, t.length ≤ L
  | [], _ => ⟨rfl, by simp [PyData.depthAll], rfl, fun _ h => by cases h⟩
  | d :: r, h => by
    obtain ⟨a, c, e, f⟩ := rz_all (ds := r) fun x hx => h x (List.mem_cons_of_mem _ hx)
    have hd := h d List.mem_cons_self
    have q := hd.dp
    refine ⟨by rw [showBAll, hd.sh, a]; rfl, by simp only [PyData.depthAll]; omega, by simp only [PyData.shownAll, List.length_cons, e], fun t ht => ?_⟩
    simp only [PyData.shownAll, List.mem_cons] at ht
    rcases ht with rfl | ht
    · exact hd.ln
    · exact f t ht
theorem rz_tup {k L n : Nat} {ds : List PyData} (h : ∀ d ∈ ds, Rz k L d) (hn : ds.length ≤ n) : Rz (k + 1) (n * (L + 2) + 4) (.tuple ds) := by
  obtain ⟨a, c, e, f⟩ := rz_all h
  refine ⟨by rw [showB]; exact a, by simp only [PyData.depth]; omega, ?_⟩
  have j := join_le f
  simp only [PyData.shown, tupleText]
  rw [strLen_append, strLen_append]
  have e1 : (Str.ofString "(").length = 1 := by decide +kernel
  have e2 : (Str.ofString (if (PyData.shownAll ds).length == 1 then ",)" else ")" : String)).length ≤ 2 := by split <;> decide +kernel
  rw [e1]
  rw [e] at j
  have : ds.length * (L + 2) ≤ n * (L + 2) := Nat.mul_le_mul_right _ hn
  omega
theorem rz_lst {k L n : Nat} {ds : List PyData} (h : ∀ d ∈ ds, Rz k L d) (hn : ds.length ≤ n) : Rz (k + 1) (n * (L + 2) + 4) (.list ds) := by
  obtain ⟨a, c, e, f⟩ := rz_all h
  refine ⟨by rw [showB]; exact a, by simp only [PyData.depth]; omega, ?_⟩
  have j := textFrom_le _ 0 (Str.ofString "[") f
  simp only [PyData.shown, listText]
  rw [strLen_append]
  have e1 : (Str.ofString "[").length = 1 := by decide +kernel
  have e2 : (Str.ofString "]").length = 1 := by decide +kernel
  rw [e2]
  rw [e1, e] at j
  have : ds.length * (L + 2) ≤ n * (L + 2) := Nat.mul_le_mul_right _ hn
  omega
theorem rz_dict0 : Rz 1 2 (.dict []) := ⟨rfl, by simp [PyData.depth, PyData.depthKv], by simp only [PyData.shown, PyData.shownKv]; decide +kernel⟩
theorem rz_dict1 {k L : Nat} {x : Str} {d : PyData} (h : Rz k L d) (hx : (reprText x).length ≤ 20) : Rz (k + 1) (L + 40) (.dict [(.str x, d)]) := by
  refine ⟨?_, ?_, ?_⟩
  · show showBKv [(.str x, d)] = true
    show ((showB (.str x) && showB d) && showBKv []) = true
    rw [h.sh]; rfl
  · have := h.dp
    simp only [PyData.depth, PyData.depthKv]
    omega
  · have := h.ln
    have e1 : (Str.ofString "{").length = 1 := by decide +kernel
    have e2 : (Str.ofString "}").length = 1 := by decide +kernel
    have e3 : (Str.ofString ": ").length = 2 := by decide +kernel
    simp only [PyData.shown, PyData.shownKv, dictText]
    rw [strLen_append, strLen_append, e1, e2]
    show 1 + (reprText x ++ ": " ++ d.shown).length + 1 ≤ _
    rw [strLen_append, strLen_append, e3]
    omega
/-- a tuple of ints of few figures -/
theorem rz_w {is : List Int} {n : Nat} (h : ∀ i ∈ is, -(2 ^ 240) < i ∧ i < 2 ^ 240) (hn : is.length ≤ n) : Rz 1 (n * 2002 + 4) (.tuple (isD is)) :=
  rz_tup (fun d hd => by
    obtain ⟨i, hi, rfl⟩ := List.mem_map.mp hd
    exact rz_i (h i hi).1 (h i hi).2) (by rw [isD, List.length_map]; exact hn)
/-- what _law_same holds beside itself -/
structure Sb (d : PyData) : Prop where
  kd : d = .none ∨ (∃ i, d = .int i) ∨ (∃ s, d = .str s) ∨ ∃ ds, d = .tuple ds
  sh : showB d = true
  dp : d.depth ≤ 60
  ln : d.shown.length ≤ sizeLine
  fm : (∃ ds, d = .tuple ds) → SeqAt.shaped d = true
theorem Sb.eq {d : PyData} (h : Sb d) (t : ∃ ds, d = .tuple ds) : PyData.eqv d d = true := SeqAt.eqv_refl d (SeqAt.canLay_of_shaped (h.fm t))
theorem sb_of {k L : Nat} {d : PyData} (h : Rz k L d) (hk : k ≤ 60) (hL : L ≤ 16777216) (kd : d = .none ∨ (∃ i, d = .int i) ∨ (∃ s, d = .str s) ∨ ∃ ds, d = .tuple ds) (fm : (∃ ds, d = .tuple ds) → SeqAt.shaped d = true) : Sb d := by
  obtain ⟨a, b, c⟩ := h.repr hk hL
  exact ⟨kd, a, b, c, fm⟩
theorem sb_none : Sb .none := sb_of rz_none (by decide) (by decide) (.inl rfl) fun ⟨_, h⟩ => by cases h
theorem sb_int {i : Int} (h : i.natAbs.log2 < 12900) : Sb (.int i) := sb_of (rz_big h) (by decide) (by decide) (.inr (.inl ⟨_, rfl⟩)) fun ⟨_, h⟩ => by cases h
theorem sb_str {x : Str} (h : (reprText x).length ≤ 2000) : Sb (.str x) := sb_of (rz_str h) (by decide) (by decide) (.inr (.inr (.inl ⟨_, rfl⟩))) fun ⟨_, h⟩ => by cases h
theorem sb_w {is : List Int} (h : ∀ i ∈ is, -(2 ^ 240) < i ∧ i < 2 ^ 240) (hn : is.length ≤ 8000) : Sb (.tuple (isD is)) := sb_of (rz_w h hn) (by decide) (by decide) (.inr (.inr (.inr ⟨_, rfl⟩))) fun _ => (shaped_isD is).1
theorem sb_prd {a b : Int} (h1 : a.natAbs.log2 < 12900) (h2 : b.natAbs.log2 < 12900) : Sb (prd (a, b)) := sb_of (rz_tup (n := 2) (k := 0) (L := 4301) (ds := [.int a, .int b]) (fun d hd => by
  simp only [List.mem_cons, List.not_mem_nil, or_false] at hd
  rcases hd with rfl | rfl
  · exact rz_big h1
  · exact rz_big h2) (by simp)) (by decide) (by decide) (.inr (.inr (.inr ⟨_, rfl⟩))) fun _ => shaped_prd (a, b)
/-- (a word of the law, a number) -/
theorem sb_at {x : Str} (h : (reprText x).length ≤ 2000) (h2 : PySem.PyData.strOk x = true) {j : Int} (j0 : -(2 ^ 240) < j) (j1 : j < 2 ^ 240) : Sb (.tuple [.str x, .int j]) := by
  have r : Rep 1 (2 * 2002 + 4) (.tuple [.str x, .int j]) := rep_tup (n := 2) (k := 0) (L := 2000) (fun d hd => by
    simp only [List.mem_cons, List.not_mem_nil, or_false] at hd
    rcases hd with rfl | rfl
    · exact rep_str h h2
    · exact rep_i j0 j1) (by simp)
  refine sb_of (k := 1) (L := 4008) (rz_tup (n := 2) (k := 0) (L := 2000) (ds := [.str x, .int j]) (fun d hd => ?_) (by simp)) (by decide) (by decide) (.inr (.inr (.inr ⟨_, rfl⟩))) fun _ => r.shaped (by decide)
  simp only [List.mem_cons, List.not_mem_nil, or_false] at hd
  rcases hd with rfl | rfl
  · exact rz_str h
  · exact rz_i j0 j1
/-- _law_same -/
inductive SameB : Con where
  | mk {d : PyData} {Ω : Om} {Φ : PhiE} {Ξ : XA} : Sb d → Φ (.d (.bool true)) Ω → SameB [.d d, .d d] Ω Φ Ξ
theorem SameB.ari : Ari SameB 2 := by rintro _ _ _ _ ⟨_, _⟩; rfl
end Z
/-! M82a: the plain law of words in a base p / q. -/
namespace KK
open PySem PySem.Spec PyProof.Rows L2 Z
structure PQ (p q : Int) : Prop where
  q2 : 2 ≤ q
  qp : q < p
  p10 : p ≤ 10
  co : Nat.gcd p.natAbs q.natAbs = 1
/-! ### values -/
def vA (p q : Int) : List Int → Int
  | [] => 0
  | w :: r => w * q ^ r.length + p * vA p q r
def Wn (p q : Int) : List Int → Int → Prop
  | [], n => n = 0
  | w :: r, n => ∃ R, Wn p q r R ∧ q * n = w + p * R
theorem wn_A {p q : Int} : ∀ {w : List Int} {n : Int}, Wn p q w n → vA p q w = n * q ^ w.length
  | [], n, h => by
    have h : n = 0 := h
    subst h; simp [vA]
  | w :: r, n, ⟨R, h1, h2⟩ => by
    have ih := wn_A h1
    simp only [vA, List.length_cons]
    generalize vA p q r = A at *
    grind
theorem PQ.pow {p q : Int} (h : PQ p q) (k : Nat) : 0 < q ^ k := Int.pow_pos (by have := h.q2; omega)
theorem PQ.dvd {p q : Int} (h : PQ p q) {k : Nat} {x : Int} (d : q ^ k ∣ p * x) : q ^ k ∣ x := by
  have c : Nat.Coprime (q.natAbs ^ k) p.natAbs := Nat.Coprime.pow_left k (Nat.Coprime.symm h.co)
  have d2 := Int.natAbs_dvd_natAbs.mpr d
  rw [Int.natAbs_mul, Int.natAbs_pow] at d2
  refine Int.natAbs_dvd_natAbs.mp ?_
  rw [Int.natAbs_pow]
  exact Nat.Coprime.dvd_of_dvd_mul_left c d2
theorem A_wn {p q : Int} (h : PQ p q) : ∀ {w : List Int} {n : Int}, vA p q w = n * q ^ w.length → Wn p q w n
  | [], n, e => by
    simp [vA] at e
    exact e.symm
  | w :: r, n, e => by
    simp only [vA, List.length_cons] at e
    have d : q ^ r.length ∣ p * vA p q r := ⟨n * q - w, by grind⟩
    obtain ⟨R, hR⟩ := h.dvd d
    refine ⟨R, A_wn h (by rw [hR, Int.mul_comm]), ?_⟩
    have k := h.pow r.length
    refine Int.eq_of_mul_eq_mul_right (a := q ^ r.length) (by omega) ?_
    grind
theorem wn_uniq {p q : Int} (h : PQ p q) : ∀ {w : List Int} {n m : Int}, Wn p q w n → Wn p q w m → n = m
  | [], n, m, a, b => by
    have a : n = 0 := a
    have b : m = 0 := b
    omega
  | w :: r, n, m, ⟨R, h1, h2⟩, ⟨S, h3, h4⟩ => by
    have := wn_uniq h h1 h3
    subst this
    exact Int.eq_of_mul_eq_mul_left (by have := h.q2; omega) (h2.trans h4.symm)
theorem wn_nn {p q : Int} (h : PQ p q) : ∀ {w : List Int} {n : Int}, (∀ f ∈ w, 0 ≤ f) → Wn p q w n → 0 ≤ n
  | [], n, _, a => by
    have a : n = 0 := a
    omega
  | w :: r, n, hf, ⟨R, h1, h2⟩ => by
    have hR := wn_nn h (fun f hf' => hf f (List.mem_cons_of_mem _ hf')) h1
    have w0 := hf w List.mem_cons_self
    have := Int.mul_nonneg (show 0 ≤ p by have := h.q2; have := h.qp; omega) hR
    rcases Int.lt_or_le n 0 with z | z
    · have := Int.mul_neg_of_pos_of_neg (show 0 < q by have := h.q2; omega) z
      omega
    · exact z
/-! ### words of numbers -/
def bf (p q : Int) : Nat → Int → List Int
  | 0, _ => []
  | f + 1, n => if 0 < n then (q * n) % p :: bf p q f (q * n / p) else []
theorem bf_pos {p q : Int} {f : Nat} {n : Int} (h : 0 < n) : bf p q (f + 1) n = (q * n) % p :: bf p q f (q * n / p) := if_pos h
theorem bf_zero {p q : Int} {f : Nat} : bf p q f 0 = [] := by cases f <;> rfl
theorem PQ.step {p q : Int} (h : PQ p q) {n : Int} (hn : 0 ≤ n) : 0 ≤ q * n / p ∧ 10 * (q * n / p) ≤ 9 * n := by
  have q2 := h.q2
  have qp := h.qp
  have p10 := h.p10
  have k := Int.mul_nonneg (show 0 ≤ q by omega) hn
  refine ⟨Int.ediv_nonneg k (by omega), ?_⟩
  have e : q * n / p * p ≤ q * n := Int.ediv_mul_le _ (by omega)
  have e2 : p * (10 * (q * n / p)) ≤ 10 * (q * n) := by grind
  have e3 : 10 * q * n ≤ 9 * p * n := Int.mul_le_mul_of_nonneg_right (by omega) hn
  have e4 : p * (10 * (q * n / p)) ≤ p * (9 * n) := by grind
  exact Int.le_of_mul_le_mul_left e4 (by omega)
theorem PQ.lt {p q : Int} (h : PQ p q) {n : Int} (hn : 0 < n) : 0 ≤ q * n / p ∧ q * n / p < n := by
  have := h.step (n := n) (by omega)
  omega
theorem bf_fuel {p q : Int} (h : PQ p q) : ∀ (f g : Nat) (n : Int), 0 ≤ n → n ≤ f → n ≤ g → bf p q f n = bf p q g n
  | 0, g, n, h0, h1, _ => by
    have : n = 0 := by omega
    subst this
    rw [bf_zero, bf_zero]
  | f + 1, 0, n, h0, _, h2 => by
    have : n = 0 := by omega
    subst this
    rw [bf_zero, bf_zero]
  | f + 1, g + 1, n, h0, h1, h2 => by
    by_cases z : 0 < n
    · have k := h.lt z
      rw [bf_pos z, bf_pos z, bf_fuel h f g _ k.1 (by omega) (by omega)]
    · have : n = 0 := by omega
      subst this
      rw [bf_zero, bf_zero]
def bfW (p q n : Int) : List Int := bf p q n.toNat n
theorem bfW_pos {p q n : Int} (h : PQ p q) (hn : 0 < n) : bfW p q n = (q * n) % p :: bfW p q (q * n / p) := by
  have k := h.lt hn
  unfold bfW
  obtain ⟨m, e⟩ : ∃ m, n.toNat = m + 1 := ⟨n.toNat - 1, by omega⟩
  rw [e, bf_pos hn, bf_fuel h m (q * n / p).toNat _ k.1 (by omega) (by omega)]
theorem bfW_zero {p q : Int} : bfW p q 0 = [] := bf_zero
theorem bf_ind {p q : Int} (h : PQ p q) {P : Int → Prop} (h0 : P 0) (hs : ∀ n, 0 < n → P (q * n / p) → P n) : ∀ (m : Nat) (n : Int), 0 ≤ n → n ≤ m → P n
  | 0, n, a, b => by
    have : n = 0 := by omega
    subst this
    exact h0
  | m + 1, n, a, b => by
    by_cases z : 0 < n
    · have k := h.lt z
      exact hs n z (bf_ind h h0 hs m _ k.1 (by omega))
    · have : n = 0 := by omega
      subst this
      exact h0
theorem bf_wn {p q : Int} (h : PQ p q) {n : Int} (hn : 0 ≤ n) : Wn p q (bfW p q n) n := by
  refine bf_ind h (P := fun n => Wn p q (bfW p q n) n) ?_ (fun n z ih => ?_) n.toNat n hn (by omega)
  · rw [bfW_zero]; exact rfl
  · rw [bfW_pos h z]
    refine ⟨_, ih, ?_⟩
    have := Int.mul_ediv_add_emod (q * n) p
    omega
theorem bf_dig {p q : Int} (h : PQ p q) {n : Int} (hn : 0 ≤ n) : ∀ d ∈ bfW p q n, 0 ≤ d ∧ d < p := by
  refine bf_ind h (P := fun n => ∀ d ∈ bfW p q n, 0 ≤ d ∧ d < p) ?_ (fun n z ih => ?_) n.toNat n hn (by omega)
  · rw [bfW_zero]; simp
  · rw [bfW_pos h z]
    intro d hd
    have pp : 0 < p := by have := h.q2; have := h.qp; omega
    rcases List.mem_cons.mp hd with rfl | hd
    · exact ⟨Int.emod_nonneg _ (by omega), Int.emod_lt_of_pos _ pp⟩
    · exact ih d hd
theorem bf_ne {p q n : Int} (h : PQ p q) (hn : 0 < n) : bfW p q n ≠ [] := by rw [bfW_pos h hn]; simp
theorem bf_last {p q : Int} (h : PQ p q) {n : Int} (hn : 0 ≤ n) : ∀ d, (bfW p q n).getLast? = some d → d ≠ 0 := by
  refine bf_ind h (P := fun n => ∀ d, (bfW p q n).getLast? = some d → d ≠ 0) ?_ (fun n z ih => ?_) n.toNat n hn (by omega)
  · rw [bfW_zero]; simp
  · intro d hd
    rw [bfW_pos h z] at hd
    have k := h.lt z
    by_cases w : 0 < q * n / p
    · rw [bfW_pos h w] at hd ih
      rw [List.getLast?_cons_cons] at hd
      exact ih d hd
    · have w0 : q * n / p = 0 := by omega
      rw [w0, bfW_zero] at hd
      simp at hd
      have e := Int.mul_ediv_add_emod (q * n) p
      rw [w0] at e
      have := Int.mul_pos (show 0 < q by have := h.q2; omega) z
      omega
theorem bf_len {p q : Int} (h : PQ p q) : ∀ (k : Nat) (n : Int), 0 ≤ n → n * 9 ^ k < 10 ^ k → (bfW p q n).length ≤ k
  | k, n, hn, e => by
    by_cases z : 0 < n
    · match k, e with
      | 0, e => simp at e; omega
      | k + 1, e =>
        have s := h.step hn
        rw [bfW_pos h z]
        have ih := bf_len h k (q * n / p) s.1 ?_
        · simp only [List.length_cons]; omega
        · have p9 : (0 : Int) ≤ 9 ^ k := Int.le_of_lt (Int.pow_pos (by decide))
          have k2 := Int.mul_le_mul_of_nonneg_right s.2 p9
          have e9 : n * 9 ^ (k + 1) = 9 * n * 9 ^ k := by grind
          have e10 : (10 : Int) ^ (k + 1) = 10 * 10 ^ k := by grind
          rw [e9, e10] at e
          have : 10 * (q * n / p * 9 ^ k) < 10 * 10 ^ k := by grind
          omega
    · have : n = 0 := by omega
      subst this
      rw [bfW_zero]; simp
theorem bf_len1000 {p q : Int} (h : PQ p q) {n : Int} (hn : 0 ≤ n) (hm : n ≤ 10 ^ 40) : (bfW p q n).length ≤ 1000 := by
  refine bf_len h 1000 n hn ?_
  have k : n * 9 ^ 1000 ≤ 10 ^ 40 * 9 ^ 1000 := Int.mul_le_mul_of_nonneg_right hm (by decide +kernel)
  exact Int.lt_of_le_of_lt k (by decide +kernel)
/-! ### carrying -/
def tl (p q : Int) : Nat → Int → List Int
  | 0, _ => []
  | f + 1, n => if 0 < n then n % p :: tl p q f (q * (n / p)) else []
theorem tl_pos {p q : Int} {f : Nat} {n : Int} (h : 0 < n) : tl p q (f + 1) n = n % p :: tl p q f (q * (n / p)) := if_pos h
theorem tl_zero {p q : Int} {f : Nat} : tl p q f 0 = [] := by cases f <;> rfl
theorem PQ.step2 {p q : Int} (h : PQ p q) {n : Int} (hn : 0 ≤ n) : 0 ≤ q * (n / p) ∧ 10 * (q * (n / p)) ≤ 9 * n := by
  have q2 := h.q2
  have qp := h.qp
  have p10 := h.p10
  have d0 : 0 ≤ n / p := Int.ediv_nonneg hn (by omega)
  have e : n / p * p ≤ n := Int.ediv_mul_le _ (by omega)
  have k := Int.mul_nonneg (show 0 ≤ q by omega) d0
  have e3 : 10 * q * (n / p) ≤ 9 * p * (n / p) := Int.mul_le_mul_of_nonneg_right (by omega) d0
  refine ⟨k, ?_⟩
  grind
theorem PQ.lt2 {p q : Int} (h : PQ p q) {n : Int} (hn : 0 < n) : 0 ≤ q * (n / p) ∧ q * (n / p) < n := by
  have := h.step2 (n := n) (by omega)
  omega
theorem tl_fuel {p q : Int} (h : PQ p q) : ∀ (f g : Nat) (n : Int), 0 ≤ n → n ≤ f → n ≤ g → tl p q f n = tl p q g n
  | 0, g, n, h0, h1, _ => by
    have : n = 0 := by omega
    subst this
    rw [tl_zero, tl_zero]
  | f + 1, 0, n, h0, _, h2 => by
    have : n = 0 := by omega
    subst this
    rw [tl_zero, tl_zero]
  | f + 1, g + 1, n, h0, h1, h2 => by
    by_cases z : 0 < n
    · have k := h.lt2 z
      rw [tl_pos z, tl_pos z, tl_fuel h f g _ k.1 (by omega) (by omega)]
    · have : n = 0 := by omega
      subst this
      rw [tl_zero, tl_zero]
def tlW (p q n : Int) : List Int := tl p q n.toNat n
theorem tlW_pos {p q n : Int} (h : PQ p q) (hn : 0 < n) : tlW p q n = n % p :: tlW p q (q * (n / p)) := by
  have k := h.lt2 hn
  unfold tlW
  obtain ⟨m, e⟩ : ∃ m, n.toNat = m + 1 := ⟨n.toNat - 1, by omega⟩
  rw [e, tl_pos hn, tl_fuel h m (q * (n / p)).toNat _ k.1 (by omega) (by omega)]
theorem tlW_zero {p q : Int} : tlW p q 0 = [] := tl_zero
theorem tl_ind {p q : Int} (h : PQ p q) {P : Int → Prop} (h0 : P 0) (hs : ∀ n, 0 < n → P (q * (n / p)) → P n) : ∀ (m : Nat) (n : Int), 0 ≤ n → n ≤ m → P n
  | 0, n, a, b => by
    have : n = 0 := by omega
    subst this
    exact h0
  | m + 1, n, a, b => by
    by_cases z : 0 < n
    · have k := h.lt2 z
      exact hs n z (tl_ind h h0 hs m _ k.1 (by omega))
    · have : n = 0 := by omega
      subst this
      exact h0
theorem tl_bf {p q : Int} (h : PQ p q) {n : Int} (hn : 0 ≤ n) : tlW p q (q * n) = bfW p q n := by
  refine bf_ind h (P := fun n => tlW p q (q * n) = bfW p q n) ?_ (fun n z ih => ?_) n.toNat n hn (by omega)
  · rw [Int.mul_zero, tlW_zero, bfW_zero]
  · rw [tlW_pos h (Int.mul_pos (by have := h.q2; omega) z), bfW_pos h z, ih]
theorem tl_len {p q : Int} (h : PQ p q) : ∀ (k : Nat) (n : Int), 0 ≤ n → n * 9 ^ k < 10 ^ k → (tlW p q n).length ≤ k
  | k, n, hn, e => by
    by_cases z : 0 < n
    · match k, e with
      | 0, e => simp at e; omega
      | k + 1, e =>
        have s := h.step2 hn
        rw [tlW_pos h z]
        have ih := tl_len h k (q * (n / p)) s.1 ?_
        · simp only [List.length_cons]; omega
        · have p9 : (0 : Int) ≤ 9 ^ k := Int.le_of_lt (Int.pow_pos (by decide))
          have k2 := Int.mul_le_mul_of_nonneg_right s.2 p9
          have e9 : n * 9 ^ (k + 1) = 9 * n * 9 ^ k := by grind
          have e10 : (10 : Int) ^ (k + 1) = 10 * 10 ^ k := by grind
          rw [e9, e10] at e
          have : 10 * (q * (n / p) * 9 ^ k) < 10 * 10 ^ k := by grind
          omega
    · have : n = 0 := by omega
      subst this
      rw [tlW_zero]; simp
theorem tl_len200 {p q : Int} (h : PQ p q) {n : Int} (hn : 0 ≤ n) (hm : n ≤ 10 ^ 9) : (tlW p q n).length ≤ 200 := by
  refine tl_len h 200 n hn ?_
  have k : n * 9 ^ 200 ≤ 10 ^ 9 * 9 ^ 200 := Int.mul_le_mul_of_nonneg_right hm (by decide +kernel)
  exact Int.lt_of_le_of_lt k (by decide +kernel)
theorem tl_dig {p q : Int} (h : PQ p q) {n : Int} (hn : 0 ≤ n) : ∀ d ∈ tlW p q n, 0 ≤ d ∧ d < p := by
  refine tl_ind h (P := fun n => ∀ d ∈ tlW p q n, 0 ≤ d ∧ d < p) ?_ (fun n z ih => ?_) n.toNat n hn (by omega)
  · rw [tlW_zero]; simp
  · rw [tlW_pos h z]
    intro d hd
    have pp : 0 < p := by have := h.q2; have := h.qp; omega
    rcases List.mem_cons.mp hd with rfl | hd
    · exact ⟨Int.emod_nonneg _ (by omega), Int.emod_lt_of_pos _ pp⟩
    · exact ih d hd
def cr (p q : Int) : Int → List Int → List Int
  | o, [] => tlW p q o
  | o, f :: r => (o + f) % p :: cr p q (q * ((o + f) / p)) r
/-- figures that may be carried, with what is carried over -/
structure Cw (w : List Int) : Prop where
  n : w.length ≤ 2000
  f : ∀ f ∈ w, 0 ≤ f ∧ f ≤ 10 ^ 8
theorem PQ.over {p q : Int} (h : PQ p q) {o f : Int} (o0 : 0 ≤ o) (o1 : o ≤ 10 ^ 9 - 10 ^ 8) (f0 : 0 ≤ f) (f1 : f ≤ 10 ^ 8) : 0 ≤ q * ((o + f) / p) ∧ q * ((o + f) / p) ≤ 10 ^ 9 - 10 ^ 8 := by
  have := h.step2 (n := o + f) (by omega)
  omega
theorem cr_len {p q : Int} (h : PQ p q) : ∀ {w : List Int} {o : Int}, 0 ≤ o → o ≤ 10 ^ 9 - 10 ^ 8 → (∀ f ∈ w, 0 ≤ f ∧ f ≤ 10 ^ 8) → (cr p q o w).length ≤ w.length + 200 ∧ ∀ d ∈ cr p q o w, 0 ≤ d ∧ d < p
  | [], o, o0, o1, _ => by
    have := tl_len200 h o0 (by omega)
    exact ⟨by show (tlW p q o).length ≤ 0 + 200; omega, tl_dig h o0⟩
  | f :: r, o, o0, o1, hf => by
    obtain ⟨f0, f1⟩ := hf f List.mem_cons_self
    obtain ⟨b0, b1⟩ := h.over o0 o1 f0 f1
    obtain ⟨l, d⟩ := cr_len h (w := r) b0 b1 fun x hx => hf x (List.mem_cons_of_mem _ hx)
    refine ⟨by show (cr p q _ r).length + 1 ≤ r.length + 1 + 200; omega, fun x hx => ?_⟩
    have pp : 0 < p := by have := h.q2; have := h.qp; omega
    rcases List.mem_cons.mp hx with rfl | hx
    · exact ⟨Int.emod_nonneg _ (by omega), Int.emod_lt_of_pos _ pp⟩
    · exact d x hx
def ah (o : Int) : List Int → List Int
  | [] => [o]
  | f :: r => (o + f) :: r
theorem ah_zero {w : List Int} (h : w ≠ []) : ah 0 w = w := by
  cases w with
  | nil => exact absurd rfl h
  | cons f r => show (0 + f) :: r = _; rw [Int.zero_add]
theorem tl_val {p q : Int} (h : PQ p q) {n : Int} (hn : 0 ≤ n) : vA p q (tlW p q n) * q = n * q ^ (tlW p q n).length := by
  refine tl_ind h (P := fun n => vA p q (tlW p q n) * q = n * q ^ (tlW p q n).length) ?_ (fun n z ih => ?_) n.toNat n hn (by omega)
  · rw [tlW_zero]; simp [vA]
  · rw [tlW_pos h z]
    simp only [vA, List.length_cons]
    have e := Int.mul_ediv_add_emod n p
    generalize n / p = c at *
    generalize n % p = d at *
    generalize (tlW p q (q * c)).length = k at *
    generalize vA p q (tlW p q (q * c)) = A at *
    have qn : q ≠ 0 := by have := h.q2; omega
    have e2 : A = c * q ^ k := Int.eq_of_mul_eq_mul_right qn (by grind)
    subst e2
    grind
theorem vA_ah {p q : Int} {o f : Int} {r : List Int} : vA p q (ah o (f :: r)) = o * q ^ r.length + vA p q (f :: r) := by
  show (o + f) * q ^ r.length + p * vA p q r = o * q ^ r.length + (f * q ^ r.length + p * vA p q r)
  grind
theorem cr_val {p q : Int} (h : PQ p q) : ∀ {w : List Int} {o : Int}, 0 ≤ o → (∀ f ∈ w, 0 ≤ f) → vA p q (cr p q o w) * q ^ (ah o w).length = vA p q (ah o w) * q ^ (cr p q o w).length
  | [], o, o0, _ => by
    have t := tl_val h o0
    show vA p q (tlW p q o) * q ^ 1 = (o * q ^ 0 + p * 0) * q ^ (tlW p q o).length
    grind
  | f :: r, o, o0, hf => by
    have f0 := hf f List.mem_cons_self
    have s := h.step2 (n := o + f) (by omega)
    have ih := cr_val h (w := r) s.1 fun x hx => hf x (List.mem_cons_of_mem _ hx)
    have e := Int.mul_ediv_add_emod (o + f) p
    have qn : q ≠ 0 := by have := h.q2; omega
    show ((o + f) % p * q ^ (cr p q (q * ((o + f) / p)) r).length + p * vA p q (cr p q (q * ((o + f) / p)) r)) * q ^ (r.length + 1) = ((o + f) * q ^ r.length + p * vA p q r) * q ^ ((cr p q (q * ((o + f) / p)) r).length + 1)
    generalize (o + f) / p = c at *
    generalize (o + f) % p = d at *
    generalize (cr p q (q * c) r).length = k at *
    generalize vA p q (cr p q (q * c) r) = A at *
    cases r with
    | nil =>
      have ih : A * q ^ 1 = (q * c * q ^ 0 + p * 0) * q ^ k := ih
      have e2 : A = c * q ^ k := Int.eq_of_mul_eq_mul_right qn (by grind)
      subst e2
      show (d * q ^ k + p * (c * q ^ k)) * q ^ (0 + 1) = ((o + f) * q ^ 0 + p * 0) * q ^ (k + 1)
      grind
    | cons g t =>
      rw [vA_ah] at ih
      have l : (ah (q * c) (g :: t)).length = t.length + 1 := rfl
      rw [l] at ih
      simp only [List.length_cons]
      generalize vA p q (g :: t) = B at *
      generalize t.length = m at *
      grind
/-! ### without noughts at the end -/
def trm : List Int → List Int
  | [] => []
  | a :: r => if trm r = [] ∧ a = 0 then [] else a :: trm r
theorem trm_zero : ∀ l : List Int, trm (l ++ [0]) = trm l
  | [] => by simp [trm]
  | a :: r => by
    show (if trm (r ++ [0]) = [] ∧ a = 0 then [] else a :: trm (r ++ [0])) = _
    rw [trm_zero r]; rfl
theorem trm_ne {a : Int} (h : a ≠ 0) : ∀ l : List Int, trm (l ++ [a]) = l ++ [a]
  | [] => by simp [trm, h]
  | b :: r => by
    show (if trm (r ++ [a]) = [] ∧ b = 0 then [] else b :: trm (r ++ [a])) = _
    rw [trm_ne h r, if_neg (by simp)]; rfl
theorem trm_len : ∀ l : List Int, (trm l).length ≤ l.length
  | [] => Nat.le_refl _
  | a :: r => by
    have := trm_len r
    show (if trm r = [] ∧ a = 0 then [] else a :: trm r).length ≤ r.length + 1
    split
    · exact Nat.zero_le _
    · simp only [List.length_cons]; omega
theorem trm_mem : ∀ {l : List Int} {d : Int}, d ∈ trm l → d ∈ l
  | a :: r, d, h => by
    have h : d ∈ (if trm r = [] ∧ a = 0 then [] else a :: trm r) := h
    split at h
    · cases h
    · rcases List.mem_cons.mp h with rfl | h
      · exact List.mem_cons_self
      · exact List.mem_cons_of_mem _ (trm_mem h)
theorem trm_val {p q : Int} : ∀ l : List Int, vA p q (trm l) * q ^ l.length = vA p q l * q ^ (trm l).length
  | [] => by simp [trm, vA]
  | a :: r => by
    have ih := trm_val (p := p) (q := q) r
    show vA p q (if trm r = [] ∧ a = 0 then [] else a :: trm r) * q ^ (r.length + 1) = (a * q ^ r.length + p * vA p q r) * q ^ (if trm r = [] ∧ a = 0 then [] else a :: trm r).length
    split
    · rename_i z
      obtain ⟨z1, rfl⟩ := z
      rw [z1] at ih
      simp [vA] at ih
      simp only [vA, List.length_nil]
      grind
    · simp only [vA, List.length_cons]
      grind
def crd (p q : Int) (w : List Int) : List Int := trm (cr p q 0 w)
theorem cr_bf {p q : Int} (h : PQ p q) : ∀ {w : List Int} {o n : Int}, 0 ≤ o → (∀ f ∈ w, 0 ≤ f) → Wn p q (ah o w) n → trm (cr p q o w) = bfW p q n
  | [], o, n, o0, _, ⟨R, h1, h2⟩ => by
    have h1 : R = 0 := h1
    subst h1
    have e : o = q * n := by omega
    have n0 : 0 ≤ n := wn_nn h (w := [o]) (by simp; omega) ⟨0, rfl, h2⟩
    subst e
    show trm (tlW p q (q * n)) = _
    rw [tl_bf h n0]
    rcases Int.lt_or_eq_of_le n0 with z | z
    · have ne := bf_ne h z
      have e := List.getLast?_eq_some_getLast ne
      have l := bf_last h n0 _ e
      have d := List.dropLast_concat_getLast ne
      rw [← d]
      exact trm_ne l _
    · subst z; rw [bfW_zero]; rfl
  | f :: r, o, n, o0, hf, ⟨R, h1, h2⟩ => by
    have f0 := hf f List.mem_cons_self
    have hr := fun x hx => hf x (List.mem_cons_of_mem f hx)
    have s := h.step2 (n := o + f) (by omega)
    have e := Int.mul_ediv_add_emod (o + f) p
    have R0 := wn_nn h hr h1
    have pp : 0 < p := by have := h.q2; have := h.qp; omega
    have m0 := Int.emod_nonneg (o + f) (show p ≠ 0 by omega)
    have m1 := Int.emod_lt_of_pos (o + f) pp
    have dv : q * n / p = (o + f) / p + R := by
      rw [h2, Int.add_mul_ediv_left _ _ (by omega)]
    have md : q * n % p = (o + f) % p := by rw [h2, Int.add_mul_emod_self_left]
    have w2 : Wn p q (ah (q * ((o + f) / p)) r) (q * n / p) := by
      rw [dv]
      cases r with
      | nil =>
        have h1 : R = 0 := h1
        subst h1
        exact ⟨0, rfl, by grind⟩
      | cons g t =>
        obtain ⟨S, h3, h4⟩ := h1
        exact ⟨S, h3, by grind⟩
    have ih := cr_bf h (w := r) s.1 hr w2
    have n0 : 0 ≤ n := by
      rcases Int.lt_or_le n 0 with z | z
      · have := Int.mul_neg_of_pos_of_neg (show 0 < q by have := h.q2; omega) z
        have := Int.mul_nonneg (show 0 ≤ p by omega) R0
        omega
      · exact z
    show (if trm (cr p q (q * ((o + f) / p)) r) = [] ∧ (o + f) % p = 0 then [] else (o + f) % p :: trm (cr p q (q * ((o + f) / p)) r)) = _
    rw [ih, ← md]
    rcases Int.lt_or_eq_of_le n0 with z | z
    · rw [bfW_pos h z, if_neg]
      rintro ⟨z1, z2⟩
      have k := h.lt z
      have : q * n / p = 0 := by
        rcases Int.lt_or_eq_of_le k.1 with w | w
        · exact absurd z1 (bf_ne h w)
        · exact w.symm
      have e3 := Int.mul_ediv_add_emod (q * n) p
      rw [this, z2] at e3
      have := Int.mul_pos (show 0 < q by have := h.q2; omega) z
      omega
    · subst z
      rw [Int.mul_zero, Int.zero_ediv, Int.zero_emod, bfW_zero]
      simp
theorem crd_bf {p q : Int} (h : PQ p q) {w : List Int} {n : Int} (hf : ∀ f ∈ w, 0 ≤ f) (hw : Wn p q w n) : crd p q w = bfW p q n := by
  cases w with
  | nil =>
    have : n = 0 := hw
    subst this
    rw [bfW_zero]
    show trm (tlW p q 0) = []
    rw [tlW_zero]; rfl
  | cons f r => exact cr_bf h (Int.le_refl 0) hf (by rw [ah_zero (by simp)]; exact hw)
theorem crd_val {p q : Int} (h : PQ p q) {w : List Int} (hf : ∀ f ∈ w, 0 ≤ f) : vA p q (crd p q w) * q ^ w.length = vA p q w * q ^ (crd p q w).length := by
  cases w with
  | nil =>
    show vA p q (trm (tlW p q 0)) * _ = _
    unfold crd
    show vA p q (trm (tlW p q 0)) * _ = _ * q ^ (trm (tlW p q 0)).length
    rw [tlW_zero]; simp [trm, vA]
  | cons f r =>
    have a := cr_val h (w := f :: r) (Int.le_refl 0) hf
    rw [ah_zero (by simp)] at a
    have b := trm_val (p := p) (q := q) (cr p q 0 (f :: r))
    unfold crd
    generalize cr p q 0 (f :: r) = c at *
    generalize (f :: r) = w at *
    have k := h.pow c.length
    refine Int.eq_of_mul_eq_mul_right (a := q ^ c.length) (by omega) ?_
    generalize vA p q (trm c) = X at *
    generalize vA p q c = Y at *
    generalize vA p q w = V at *
    generalize q ^ c.length = C at *
    generalize q ^ w.length = D at *
    generalize q ^ (trm c).length = F at *
    grind
end KK
namespace KK
open PySem PySem.Spec PyProof.Rows L2 Z
/-! ### bounds -/
@[irreducible] def B9 : Int := 2 ^ 8000
theorem b9_nat {b : Int} (h0 : 0 ≤ b) (h : b ≤ B9) : b.natAbs < 2 ^ 8001 := by
  have e2 : ((2 ^ 8000 : Nat) : Int) = 2 ^ 8000 := Int.natCast_pow 2 8000
  unfold B9 at h
  rw [← e2] at h
  have h1 : b.natAbs ≤ 2 ^ 8000 := Int.ofNat_le.mp (by rw [Int.natAbs_of_nonneg h0]; exact h)
  exact Nat.lt_of_le_of_lt h1 (Nat.pow_lt_pow_right (by decide) (by decide))
theorem b9_log {b : Int} (h0 : 0 ≤ b) (h : b ≤ B9) : b.natAbs.log2 < 9000 := by
  have := log2_lt (b9_nat h0 h) (by decide)
  omega
theorem b9_mul {a b : Int} (a0 : 0 ≤ a) (a1 : a ≤ B9) (b0 : 0 ≤ b) (b1 : b ≤ B9) : CMulX a b := mulx_ok (b9_nat a0 a1) (b9_nat b0 b1) (by decide)
theorem b9_sm {a : Int} (h : a ≤ 2 ^ 240) : a ≤ B9 := Int.le_trans h (by unfold B9; decide +kernel)
theorem b9_11 {k : Nat} (h : k ≤ 2000) : (10 : Int) ^ 8 * 11 ^ k ≤ B9 := by
  have a : (11 : Int) ^ k ≤ 11 ^ 2000 := by
    have e : ((11 ^ k : Nat) : Int) = 11 ^ k := by simp
    have e2 : ((11 ^ 2000 : Nat) : Int) = 11 ^ 2000 := Int.natCast_pow 11 2000
    rw [← e, ← e2]
    exact Int.ofNat_le.mpr (Nat.pow_le_pow_right (by decide) h)
  refine Int.le_trans (Int.mul_le_mul_of_nonneg_left a (by decide)) ?_
  unfold B9
  decide +kernel
theorem PQ.powle {p q : Int} (h : PQ p q) (k : Nat) : q ^ k ≤ 11 ^ k := by
  induction k with
  | zero => simp
  | succ k ih =>
    rw [Int.pow_succ, Int.pow_succ]
    exact Int.mul_le_mul ih (by have := h.qp; have := h.p10; omega) (by have := h.q2; omega) (Int.le_of_lt (Int.pow_pos (by decide)))
theorem vA_b {p q : Int} (h : PQ p q) : ∀ {w : List Int}, (∀ f ∈ w, 0 ≤ f ∧ f ≤ 10 ^ 8) → 0 ≤ vA p q w ∧ vA p q w ≤ 10 ^ 8 * 11 ^ w.length
  | [], _ => by simp [vA]
  | w :: r, hf => by
    obtain ⟨w0, w1⟩ := hf w List.mem_cons_self
    obtain ⟨a, b⟩ := vA_b h (w := r) fun x hx => hf x (List.mem_cons_of_mem _ hx)
    have pk := h.pow r.length
    have pl := h.powle r.length
    have p0 : 0 ≤ p := by have := h.q2; have := h.qp; omega
    have k1 := Int.mul_nonneg w0 (Int.le_of_lt pk)
    have k2 := Int.mul_nonneg p0 a
    have k3 : w * q ^ r.length ≤ 10 ^ 8 * 11 ^ r.length := Int.mul_le_mul w1 pl (by omega) (by decide)
    have k4 : p * vA p q r ≤ 10 * (10 ^ 8 * 11 ^ r.length) := Int.mul_le_mul h.p10 b a (by decide)
    refine ⟨by simp only [vA]; omega, ?_⟩
    simp only [vA, List.length_cons]
    have e : (10 : Int) ^ 8 * 11 ^ (r.length + 1) = 11 * (10 ^ 8 * 11 ^ r.length) := by grind
    omega
structure Vw (w : List Int) : Prop where
  n : w.length ≤ 2000
  f : ∀ f ∈ w, 0 ≤ f ∧ f ≤ 10 ^ 8
theorem Vw.nn {w : List Int} (h : Vw w) : ∀ f ∈ w, 0 ≤ f := fun f hf => (h.f f hf).1
theorem Vw.b {w : List Int} (h : Vw w) {p q : Int} (pq : PQ p q) : 0 ≤ vA p q w ∧ vA p q w ≤ B9 ∧ 1 ≤ q ^ w.length ∧ q ^ w.length ≤ B9 := by
  obtain ⟨a, b⟩ := vA_b pq h.f
  have k := b9_11 h.n
  have p1 := pq.powle w.length
  have p2 := pq.pow w.length
  refine ⟨a, Int.le_trans b k, p2, Int.le_trans p1 (Int.le_trans ?_ k)⟩
  have : (1 : Int) * 11 ^ w.length ≤ 10 ^ 8 * 11 ^ w.length := Int.mul_le_mul_of_nonneg_right (by decide) (Int.le_of_lt (Int.pow_pos (by decide)))
  omega
theorem Vw.drop {w : List Int} (h : Vw w) (k : Nat) : Vw (w.drop k) := ⟨by have := h.n; rw [List.length_drop]; omega, fun f hf => h.f f (List.mem_of_mem_drop hf)⟩
def bvl (p q : Int) (w : List Int) : Int × Int := least (vA p q w) (q ^ w.length)
theorem bvl_n {p q : Int} (h : PQ p q) {w : List Int} {n : Int} (hw : Wn p q w n) (n0 : 0 ≤ n) : bvl p q w = (n, 1) := by
  have k := h.pow w.length
  have e := wn_A hw
  unfold bvl
  rw [e]
  have l := least_eq (a := n * q ^ w.length) (b := q ^ w.length) (c := n) (d := 1) (Int.mul_nonneg n0 (by omega)) k n0 (by decide) (by omega)
  rw [l]
  exact least_self n0 (by decide) (Nat.gcd_one_right _)
theorem bvl_int {p q : Int} (h : PQ p q) {w : List Int} (hf : ∀ f ∈ w, 0 ≤ f ∧ f ≤ 10 ^ 8) : (bvl p q w).2 = 1 ↔ ∃ n, Wn p q w n := by
  have k := h.pow w.length
  obtain ⟨a, -⟩ := vA_b h hf
  constructor
  · intro e
    have c := least_cross (a := vA p q w) (b := q ^ w.length) k
    unfold bvl at e
    rw [e, Int.mul_one] at c
    exact ⟨_, A_wn h c.symm⟩
  · rintro ⟨n, hn⟩
    rw [bvl_n h hn (wn_nn h (fun f z => (hf f z).1) hn)]
theorem bvl_crd {p q : Int} (h : PQ p q) {w : List Int} (hw : Vw w) (hc : Vw (crd p q w)) : bvl p q (crd p q w) = bvl p q w := by
  obtain ⟨a0, -, b0, -⟩ := hw.b h
  obtain ⟨c0, -, d0, -⟩ := hc.b h
  exact least_eq c0 (by omega) a0 (by omega) (crd_val h hw.nn)
/-! ### the law's way to least terms -/
structure Lt (p q : Int) (w : List Int) (a b : Int) : Prop where
  a0 : 0 < a
  b0 : 0 < b
  c : a * q ^ w.length = vA p q w * b
  d : b ∣ q ^ w.length
theorem Lt.div {p q r : Int} {w : List Int} {a b : Int} (h : Lt p q w a b) (hr : 2 ≤ r) (ha : a % r = 0) (hb : b % r = 0) : Lt p q w (a / r) (b / r) ∧ b / r < b := by
  have a0 := h.a0
  have b0 := h.b0
  have ea : a = r * (a / r) := by have := Int.mul_ediv_add_emod a r; omega
  have eb : b = r * (b / r) := by have := Int.mul_ediv_add_emod b r; omega
  have c := h.c
  have d := h.d
  generalize a / r = x at *
  generalize b / r = y at *
  subst ea eb
  have x0 : 0 < x := by
    rcases Int.lt_or_le 0 x with z | z
    · exact z
    · have := Int.mul_nonpos_of_nonneg_of_nonpos (show 0 ≤ r by omega) z; omega
  have y0 : 0 < y := by
    rcases Int.lt_or_le 0 y with z | z
    · exact z
    · have := Int.mul_nonpos_of_nonneg_of_nonpos (show 0 ≤ r by omega) z; omega
  refine ⟨⟨x0, y0, ?_, Int.dvd_trans ⟨r, Int.mul_comm ..⟩ d⟩, ?_⟩
  · refine Int.eq_of_mul_eq_mul_left (a := r) (by omega) ?_
    grind
  · have := Int.mul_le_mul_of_nonneg_right hr (show 0 ≤ y by omega)
    omega
def Nd (r a b : Int) : Prop := ¬ (a % r = 0 ∧ b % r = 0)
theorem nd_div {r s a b : Int} (h : Nd r a b) (ha : a % s = 0) (hb : b % s = 0) : Nd r (a / s) (b / s) := by
  rintro ⟨x, y⟩
  have ea : a = s * (a / s) := by have := Int.mul_ediv_add_emod a s; omega
  have eb : b = s * (b / s) := by have := Int.mul_ediv_add_emod b s; omega
  refine h ⟨?_, ?_⟩
  · rw [ea]; exact Int.emod_eq_zero_of_dvd (Int.dvd_mul_of_dvd_right (Int.dvd_of_emod_eq_zero x))
  · rw [eb]; exact Int.emod_eq_zero_of_dvd (Int.dvd_mul_of_dvd_right (Int.dvd_of_emod_eq_zero y))
theorem small_prime : ∀ d : Nat, d < 10 → 2 ≤ d → d % 2 = 0 ∨ d % 3 = 0 ∨ d % 5 = 0 ∨ d % 7 = 0 := by decide
theorem Lt.fin {p q : Int} (h : PQ p q) {w : List Int} {a b : Int} (l : Lt p q w a b) (n2 : Nd 2 a b) (n3 : Nd 3 a b) (n5 : Nd 5 a b) (n7 : Nd 7 a b) : (a, b) = bvl p q w := by
  have a0 := l.a0
  have b0 := l.b0
  have k := h.pow w.length
  have co : Nat.gcd a.natAbs b.natAbs = 1 := by
    have g1 : Nat.gcd a.natAbs b.natAbs ∣ q.natAbs ^ w.length := by
      have := Int.natAbs_dvd_natAbs.mpr l.d
      rw [Int.natAbs_pow] at this
      exact Nat.dvd_trans (Nat.gcd_dvd_right _ _) this
    have ga := Nat.gcd_dvd_left a.natAbs b.natAbs
    have gb := Nat.gcd_dvd_right a.natAbs b.natAbs
    have gp : 0 < Nat.gcd a.natAbs b.natAbs := Nat.gcd_pos_of_pos_left _ (by omega)
    generalize Nat.gcd a.natAbs b.natAbs = g at *
    by_cases c : Nat.Coprime g q.natAbs
    · have c2 : Nat.Coprime g (q.natAbs ^ w.length) := Nat.Coprime.pow_right _ c
      exact Nat.Coprime.eq_one_of_dvd c2 g1
    · have d1 := Nat.gcd_dvd_left g q.natAbs
      have d2 := Nat.gcd_dvd_right g q.natAbs
      have dp : 0 < Nat.gcd g q.natAbs := Nat.gcd_pos_of_pos_left _ gp
      have dn : Nat.gcd g q.natAbs ≠ 1 := c
      generalize Nat.gcd g q.natAbs = e at *
      have le := Nat.le_of_dvd (show 0 < q.natAbs by have := h.q2; omega) d2
      have q9 : q.natAbs ≤ 9 := by have := h.q2; have := h.qp; have := h.p10; omega
      have no : ∀ r : Nat, e % r = 0 → Nd (r : Int) a b → False := by
        intro r hr nd
        have re : r ∣ e := Nat.dvd_of_mod_eq_zero hr
        have ra : (r : Int) ∣ a := Int.natAbs_dvd_natAbs.mp (by rw [Int.natAbs_natCast]; exact Nat.dvd_trans re (Nat.dvd_trans d1 ga))
        have rb : (r : Int) ∣ b := Int.natAbs_dvd_natAbs.mp (by rw [Int.natAbs_natCast]; exact Nat.dvd_trans re (Nat.dvd_trans d1 gb))
        exact nd ⟨Int.emod_eq_zero_of_dvd ra, Int.emod_eq_zero_of_dvd rb⟩
      rcases small_prime e (by omega) (by omega) with z | z | z | z
      · exact (no 2 z n2).elim
      · exact (no 3 z n3).elim
      · exact (no 5 z n5).elim
      · exact (no 7 z n7).elim
  have v0 : 0 ≤ vA p q w := by
    rcases Int.lt_or_le (vA p q w) 0 with z | z
    · have c := l.c
      have := Int.mul_neg_of_neg_of_pos z b0
      have := Int.mul_pos a0 k
      omega
    · exact z
  have e := least_eq (a := a) (b := b) (c := vA p q w) (d := q ^ w.length) (by omega) b0 v0 k l.c
  rw [least_self (by omega) b0 co] at e
  exact e
theorem bvl_zero {p q : Int} (h : PQ p q) {w : List Int} (e : vA p q w = 0) : bvl p q w = (0, 1) := by
  unfold bvl
  rw [e]
  have l := least_eq (a := 0) (b := q ^ w.length) (c := 0) (d := 1) (by decide) (h.pow _) (by decide) (by decide) (by simp)
  rw [l]
  decide +kernel
/-! ### sums, products, figures put down -/
theorem wn_zeros {p q : Int} : ∀ k : Nat, Wn p q (List.replicate k 0) 0
  | 0 => rfl
  | k + 1 => ⟨0, wn_zeros k, by simp⟩
theorem wn_pad {p q : Int} (k : Nat) : ∀ {w : List Int} {n : Int}, Wn p q w n → Wn p q (w ++ List.replicate k 0) n
  | [], n, h => by
    have h : n = 0 := h
    subst h
    exact wn_zeros k
  | a :: r, n, ⟨R, h1, h2⟩ => ⟨R, wn_pad k h1, h2⟩
theorem wn_add {p q : Int} : ∀ {u v : List Int} {a b : Int}, u.length = v.length → Wn p q u a → Wn p q v b → Wn p q (List.zipWith (· + ·) u v) (a + b)
  | [], [], a, b, _, h1, h2 => by
    have h1 : a = 0 := h1
    have h2 : b = 0 := h2
    subst h1 h2
    exact rfl
  | x :: u, y :: v, a, b, l, ⟨R, h1, h2⟩, ⟨S, h3, h4⟩ => by
    refine ⟨R + S, wn_add (by simpa using l) h1 h3, ?_⟩
    show q * (a + b) = x + y + p * (R + S)
    grind
theorem wn_mul {p q t : Int} : ∀ {u : List Int} {a : Int}, Wn p q u a → Wn p q (u.map fun f => t * f) (t * a)
  | [], a, h => by
    have h : a = 0 := h
    subst h
    exact Int.mul_zero t
  | x :: u, a, ⟨R, h1, h2⟩ => ⟨t * R, wn_mul h1, by show q * (t * a) = t * x + p * (t * R); grind⟩
theorem wn_trm {p q : Int} (hq : q ≠ 0) : ∀ {w : List Int} {n : Int}, Wn p q w n → Wn p q (trm w) n
  | [], n, h => h
  | a :: r, n, ⟨R, h1, h2⟩ => by
    have ih := wn_trm hq h1
    show Wn p q (if trm r = [] ∧ a = 0 then [] else a :: trm r) n
    split
    · rename_i z
      obtain ⟨z1, rfl⟩ := z
      rw [z1] at ih
      have ih : R = 0 := ih
      subst ih
      show n = 0
      rcases Int.mul_eq_zero.mp (show q * n = 0 by omega) with z2 | z2
      · exact absurd z2 hq
      · exact z2
    · exact ⟨R, ih, h2⟩
theorem wn_down {p q t a b : Int} : ∀ {x y : List Int} {n : Int}, Wn p q (x ++ a :: b :: y) n → Wn p q (x ++ (a + p * t) :: (b - q * t) :: y) n
  | [], y, n, ⟨R, ⟨S, h1, h2⟩, h3⟩ => ⟨R - t, ⟨S, h1, by grind⟩, by grind⟩
  | c :: x, y, n, ⟨R, h1, h2⟩ => ⟨R, wn_down h1, h2⟩
theorem wn_near {p q : Int} (h : PQ p q) {c d : Int} (cd : c - d = 1 ∨ c - d = -1) : ∀ {x y : List Int} {n m : Int}, Wn p q (x ++ c :: y) n → ¬ Wn p q (x ++ d :: y) m
  | [], y, n, m, ⟨R, h1, h2⟩, ⟨S, h3, h4⟩ => by
    have := wn_uniq h h1 h3
    subst this
    have e : q * (n - m) = c - d := by grind
    have q2 := h.q2
    have dv : q ∣ 1 := by
      rcases cd with z | z
      · exact ⟨n - m, by omega⟩
      · exact ⟨-(n - m), by rw [Int.mul_neg]; omega⟩
    have := Int.le_of_dvd (by decide) dv
    omega
  | a :: x, y, n, m, ⟨R, h1, h2⟩, ⟨S, h3, h4⟩ => wn_near h cd h1 h3
theorem wn_tail {p q : Int} : ∀ {x y : List Int} {n : Int}, Wn p q (x ++ y) n → ∃ m, Wn p q y m
  | [], y, n, h => ⟨n, h⟩
  | a :: x, y, n, ⟨R, h1, h2⟩ => wn_tail h1
/-- c_i in a row of k -/
def pw (p q : Int) (k i : Nat) : Int := p ^ i * q ^ (k - 1 - i)
theorem vA_set {p q d : Int} : ∀ {w : List Int} {i : Nat} {a : Int}, w[i]? = some a → vA p q (w.set i (a + d)) = vA p q w + d * pw p q w.length i
  | [], i, a, h => by simp at h
  | b :: r, 0, a, h => by
    simp at h
    subst h
    simp only [List.set_cons_zero, vA, pw, List.length_cons]
    rw [show r.length + 1 - 1 - 0 = r.length by omega]
    grind
  | b :: r, i + 1, a, h => by
    have h : r[i]? = some a := by simpa using h
    have lt := (List.getElem?_eq_some_iff.mp h).1
    simp only [List.set_cons_succ, vA, List.length_set]
    rw [vA_set h]
    simp only [pw, List.length_cons]
    rw [show r.length + 1 - 1 - (i + 1) = r.length - 1 - i by omega]
    grind
theorem vA_zeros {p q : Int} : ∀ k : Nat, vA p q (List.replicate k 0) = 0
  | 0 => rfl
  | k + 1 => by rw [List.replicate_succ, vA, vA_zeros k]; simp
/-- the first i figures' part of a word's value -/
def vP (p q : Int) (w : List Int) (i : Nat) : Int := vA p q (w.take i ++ List.replicate (w.length - i) 0)
theorem vP_zero {p q : Int} {w : List Int} : vP p q w 0 = 0 := by
  unfold vP
  rw [List.take_zero, List.nil_append, vA_zeros]
theorem vP_all {p q : Int} {w : List Int} : vP p q w w.length = vA p q w := by
  unfold vP
  rw [List.take_length, Nat.sub_self]
  simp
theorem vP_succ {p q : Int} : ∀ {w : List Int} {i : Nat} {a : Int}, w[i]? = some a → vP p q w (i + 1) = vP p q w i + a * pw p q w.length i
  | b :: r, 0, a, h => by
    simp at h
    subst h
    unfold vP pw
    simp only [List.take_succ_cons, List.take_zero, List.length_cons, List.nil_append, List.cons_append]
    rw [show r.length + 1 - (0 + 1) = r.length by omega, show r.length + 1 - 0 = r.length + 1 by omega, vA_zeros]
    try rw [show r.length + 1 - 1 - 0 = r.length by omega]
    try rw [Nat.sub_zero]
    simp only [vA, vA_zeros, List.length_replicate]
    grind
  | b :: r, i + 1, a, h => by
    have h : r[i]? = some a := by simpa using h
    have lt := (List.getElem?_eq_some_iff.mp h).1
    have ih := vP_succ (p := p) (q := q) h
    unfold vP pw at *
    simp only [List.take_succ_cons, List.length_cons, List.cons_append, vA]
    rw [show r.length + 1 - (i + 1 + 1) = r.length - (i + 1) by omega, show r.length + 1 - (i + 1) = r.length - i by omega, ih, show r.length + 1 - 1 - (i + 1) = r.length - 1 - i by omega]
    have l1 : (List.take (i + 1) r ++ List.replicate (r.length - (i + 1)) 0).length = r.length := by simp only [List.length_append, List.length_take, List.length_replicate]; omega
    have l2 : (List.take i r ++ List.replicate (r.length - i) 0).length = r.length := by simp only [List.length_append, List.length_take, List.length_replicate]; omega
    rw [l1, l2]
    grind
theorem pw_mul {p q : Int} {k l i j : Nat} (hi : i < k) (hj : j < l) : pw p q (k + l) (i + j) = q * (pw p q k i * pw p q l j) := by
  unfold pw
  rw [show k + l - 1 - (i + j) = (k - 1 - i) + (l - 1 - j) + 1 by omega]
  grind
end KK
namespace KK
open PySem PySem.Spec PyProof.Rows L2 Z
/-! ### the judge -/
def isI : PyData → Bool
  | .int _ => true
  | _ => false
def toI : PyData → Int
  | .int i => i
  | _ => 0
theorem toI_isD : ∀ is : List Int, (isD is).map toI = is
  | [] => rfl
  | i :: r => congrArg (i :: ·) (toI_isD r)
theorem isD_inj {is js : List Int} (h : isD is = isD js) : is = js := by
  have := congrArg (fun l : List PyData => l.map toI) h
  simpa only [toI_isD] using this
theorem isI_all : ∀ {ds : List PyData}, ds.all isI = true → ds = isD (ds.map toI)
  | [], _ => rfl
  | d :: r, h => by
    rw [List.all_cons, Bool.and_eq_true] at h
    have h1 := isI_all h.2
    cases d with
    | int i =>
      show _ = PyData.int i :: isD (r.map toI)
      rw [← h1]
    | _ => exact absurd h.1 Bool.false_ne_true
theorem all_isI : ∀ is : List Int, (isD is).all isI = true
  | [] => rfl
  | i :: r => by
    show (isI (.int i) && (isD r).all isI) = true
    rw [all_isI r]; rfl
def fg (p : Int) : List Int → Nat → Option Nat
  | [], _ => none
  | a :: r, j => if 0 ≤ a ∧ a < p then fg p r (j + 1) else some j
def figD (j : Nat) : PyData := .tuple [.str "figure", .int j]
noncomputable def jdI (p q : Int) (is : List Int) : PyData := by
  classical exact match fg p is 0 with
    | some j => figD j
    | none => if is.getLast? = some 0 then .str "nought" else if ∃ n, Wn p q is n then .none else .str "whole"
def jF : PyData → Bool
  | .tuple ds => decide (ds.length ≤ 1000) && ds.all isI
  | _ => false
noncomputable def jd (p q : Int) (d : PyData) : PyData := if jF d = true then jdI p q (match d with | .tuple ds => ds.map toI | _ => []) else .str "form"
theorem jd_form {p q : Int} {d : PyData} (h : jF d = false) : jd p q d = .str "form" := by unfold jd; rw [if_neg (by rw [h]; decide)]
theorem jd_is {p q : Int} {is : List Int} (h : is.length ≤ 1000) : jd p q (.tuple (isD is)) = jdI p q is := by
  unfold jd
  have f : jF (.tuple (isD is)) = true := by
    show (decide ((isD is).length ≤ 1000) && (isD is).all isI) = true
    rw [all_isI, len_isD, decide_eq_true h]; rfl
  rw [if_pos f]
  show jdI p q ((isD is).map toI) = _
  rw [toI_isD]
theorem jd_long {p q : Int} {ds : List PyData} (h : 1000 < ds.length) : jd p q (.tuple ds) = .str "form" := jd_form (by
  show (decide (ds.length ≤ 1000) && ds.all isI) = false
  rw [decide_eq_false (by omega)]; rfl)
theorem jd_bad {p q : Int} {ds : List PyData} {d : PyData} (h : d ∈ ds) (h2 : isI d = false) : jd p q (.tuple ds) = .str "form" := jd_form (by
  show (decide (ds.length ≤ 1000) && ds.all isI) = false
  rw [Bool.and_eq_false_iff]
  right
  rw [Bool.eq_false_iff]
  intro z
  have := List.all_eq_true.mp z d h
  rw [h2] at this
  cases this)
theorem jd_not {p q : Int} {d : PyData} (h : ∀ ds, d ≠ .tuple ds) : jd p q d = .str "form" := jd_form (by cases d with | tuple ds => exact absurd rfl (h ds) | _ => rfl)
theorem jdI_fig {p q : Int} {is : List Int} {j : Nat} (h : fg p is 0 = some j) : jdI p q is = figD j := by unfold jdI; rw [h]
theorem jdI_nought {p q : Int} {is : List Int} (h : fg p is 0 = none) (h2 : is.getLast? = some 0) : jdI p q is = .str "nought" := by unfold jdI; rw [h]; simp only [h2]; rfl
theorem jdI_none {p q : Int} {is : List Int} {n : Int} (h : fg p is 0 = none) (h2 : is.getLast? ≠ some 0) (h3 : Wn p q is n) : jdI p q is = .none := by
  classical
  unfold jdI
  rw [h]
  simp only
  rw [if_neg h2, if_pos ⟨n, h3⟩]
theorem jdI_whole {p q : Int} {is : List Int} (h : fg p is 0 = none) (h2 : is.getLast? ≠ some 0) (h3 : ∀ n, ¬ Wn p q is n) : jdI p q is = .str "whole" := by
  classical
  unfold jdI
  rw [h]
  simp only
  rw [if_neg h2, if_neg fun ⟨n, hn⟩ => h3 n hn]
theorem fg_none {p : Int} : ∀ {is : List Int} {j : Nat}, (∀ i ∈ is, 0 ≤ i ∧ i < p) → fg p is j = none
  | [], _, _ => rfl
  | a :: r, j, h => by
    show (if 0 ≤ a ∧ a < p then fg p r (j + 1) else some j) = none
    rw [if_pos (h a List.mem_cons_self)]
    exact fg_none fun i hi => h i (List.mem_cons_of_mem _ hi)
theorem fg_all {p : Int} : ∀ {is : List Int} {j : Nat}, fg p is j = none → ∀ i ∈ is, 0 ≤ i ∧ i < p
  | a :: r, j, h, i, hi => by
    have h : (if 0 ≤ a ∧ a < p then fg p r (j + 1) else some j) = none := h
    split at h
    · rename_i z
      rcases List.mem_cons.mp hi with rfl | hi
      · exact z
      · exact fg_all h i hi
    · cases h
theorem fg_at {p : Int} {b : Int} (hb : ¬ (0 ≤ b ∧ b < p)) : ∀ {x y : List Int} {j : Nat}, (∀ i ∈ x, 0 ≤ i ∧ i < p) → fg p (x ++ b :: y) j = some (j + x.length)
  | [], y, j, _ => by
    show (if 0 ≤ b ∧ b < p then _ else some j) = _
    rw [if_neg hb]; rfl
  | a :: r, y, j, h => by
    show (if 0 ≤ a ∧ a < p then fg p (r ++ b :: y) (j + 1) else some j) = _
    rw [if_pos (h a List.mem_cons_self), fg_at hb fun i hi => h i (List.mem_cons_of_mem _ hi)]
    simp only [List.length_cons]
    congr 1
    omega
theorem sb_fig (j : Nat) (h : j < 2 ^ 60) : Sb (figD j) := sb_at (by decide +kernel) (by decide +kernel) (Int.lt_of_lt_of_le (by decide) (Int.natCast_nonneg j)) (by
  have : (j : Int) < 2 ^ 60 := by exact_mod_cast h
  exact Int.lt_trans this (by decide))
theorem fg_lt {p : Int} : ∀ {is : List Int} {j k : Nat}, fg p is j = some k → k < j + is.length
  | a :: r, j, k, h => by
    have h : (if 0 ≤ a ∧ a < p then fg p r (j + 1) else some j) = some k := h
    simp only [List.length_cons]
    split at h
    · have := fg_lt h; omega
    · cases h; omega
theorem sb_jdI {p q : Int} {is : List Int} (h : is.length ≤ 1000) : Sb (jdI p q is) := by
  classical
  cases e : fg p is 0 with
  | some j =>
    rw [jdI_fig e]
    have := fg_lt e
    exact sb_fig j (Nat.lt_of_le_of_lt (show j ≤ 1000 by omega) (by decide))
  | none =>
    by_cases l : is.getLast? = some 0
    · rw [jdI_nought e l]
      exact sb_str (by decide +kernel)
    · by_cases v : ∃ n, Wn p q is n
      · obtain ⟨n, hn⟩ := v
        rw [jdI_none e l hn]
        exact sb_none
      · rw [jdI_whole e l fun n hn => v ⟨n, hn⟩]
        exact sb_str (by decide +kernel)
theorem jF_is {d : PyData} (h : jF d = true) : ∃ is, d = .tuple (isD is) ∧ is.length ≤ 1000 := by
  cases d with
  | tuple ds =>
    have f : (decide (ds.length ≤ 1000) && ds.all isI) = true := h
    rw [Bool.and_eq_true] at f
    exact ⟨ds.map toI, by rw [← isI_all f.2], by rw [List.length_map]; exact of_decide_eq_true f.1⟩
  | _ => exact absurd h Bool.false_ne_true
theorem sb_jd {p q : Int} (d : PyData) : Sb (jd p q d) := by
  cases f : jF d with
  | false => rw [jd_form f]; exact sb_str (by decide +kernel)
  | true =>
    obtain ⟨is, rfl, l⟩ := jF_is f
    rw [jd_is l]
    exact sb_jdI l
/-! ### words that were grown -/
structure Gn' (p q : Int) (w : List Int) : Prop where
  d : ∀ i ∈ w, 0 ≤ i ∧ i < p
  l : w.getLast? ≠ some 0
  v : ∃ n, Wn p q w n
theorem Gn'.jd {p q : Int} {w : List Int} (h : Gn' p q w) (n : w.length ≤ 1000) : jd p q (.tuple (isD w)) = .none := by
  obtain ⟨m, hm⟩ := h.v
  rw [jd_is n]
  exact jdI_none (fg_none h.d) h.l hm
theorem Gn'.vw {p q : Int} (pq : PQ p q) {w : List Int} (h : Gn' p q w) (n : w.length ≤ 2000) : Vw w := ⟨n, fun f hf => by
  have := h.d f hf
  have := pq.p10
  omega⟩
theorem bf_gn {p q : Int} (pq : PQ p q) {n : Int} (hn : 0 ≤ n) : Gn' p q (bfW p q n) := ⟨bf_dig pq hn, fun e => bf_last pq hn _ e rfl, n, bf_wn pq hn⟩
/-! ### pairs -/
def pqB (p q : Nat) : Bool := [2, 3, 5, 7].all fun r => decide (0 < p % r) || decide (0 < q % r)
theorem pq_of : ∀ p : Nat, p < 11 → ∀ q : Nat, q < p → 2 ≤ q → pqB p q = true → Nat.gcd p q = 1 := by decide
theorem PQ.mk' {p q : Int} (h1 : 2 ≤ q) (h2 : q < p) (h3 : p ≤ 10) (h : pqB p.toNat q.toNat = true) : PQ p q := by
  refine ⟨h1, h2, h3, ?_⟩
  have := pq_of p.toNat (by omega) q.toNat (by omega) (by omega) h
  rw [show p.natAbs = p.toNat by omega, show q.natAbs = q.toNat by omega]
  exact this
end KK
namespace KK
open PySem PySem.Spec PyProof.Rows L2 Z
abbrev T0 (is : List Int) : PyData := .tuple (isD is)
def lenOk : PyData → Prop
  | .tuple ds => ds.length ≤ 2000
  | _ => True
/-- figures added, the shorter one filled up with noughts -/
def fill (n : Nat) (u : List Int) : List Int := u ++ List.replicate (n - u.length) 0
def sumL (u v : List Int) : List Int := List.zipWith (· + ·) (fill (max u.length v.length) u) (fill (max u.length v.length) v)
theorem fill_len {n : Nat} {u : List Int} (h : u.length ≤ n) : (fill n u).length = n := by
  unfold fill
  rw [List.length_append, List.length_replicate]
  omega
theorem sumL_len (u v : List Int) : (sumL u v).length = max u.length v.length := by
  unfold sumL
  rw [List.length_zipWith, fill_len (Nat.le_max_left ..), fill_len (Nat.le_max_right ..), Nat.min_self]
theorem sumL_wn {p q : Int} {u v : List Int} {a b : Int} (h1 : Wn p q u a) (h2 : Wn p q v b) : Wn p q (sumL u v) (a + b) := by
  refine wn_add ?_ (wn_pad _ h1) (wn_pad _ h2)
  exact (fill_len (Nat.le_max_left ..)).trans (fill_len (Nat.le_max_right ..)).symm
theorem fill_get {n : Nat} {u : List Int} {i : Nat} (h : i < n) (hu : u.length ≤ n) : (fill n u)[i]? = some (u.getD i 0) := by
  unfold fill
  rcases Nat.lt_or_ge i u.length with z | z
  · rw [List.getElem?_append_left z, List.getD_eq_getElem?_getD, List.getElem?_eq_getElem z]; rfl
  · rw [List.getElem?_append_right z, List.getD_eq_getElem?_getD, List.getElem?_eq_none z, List.getElem?_replicate, if_pos (by omega)]; rfl
theorem sumL_get {u v : List Int} {i : Nat} (h : i < max u.length v.length) : (sumL u v)[i]? = some (u.getD i 0 + v.getD i 0) := by
  unfold sumL
  rw [List.getElem?_zipWith, fill_get h (Nat.le_max_left ..), fill_get h (Nat.le_max_right ..)]
theorem trm_id {w : List Int} (h : w.getLast? ≠ some 0) : trm w = w := by
  rcases List.eq_nil_or_concat w with rfl | ⟨l, a, rfl⟩
  · rfl
  · rw [List.concat_eq_append] at h ⊢
    refine trm_ne ?_ l
    rintro rfl
    exact h (by simp)
theorem getD_mem {u : List Int} {i : Nat} {P : Int → Prop} (h0 : P 0) (h : ∀ x ∈ u, P x) : P (u.getD i 0) := by
  rw [List.getD_eq_getElem?_getD]
  cases e : u[i]? with
  | none => exact h0
  | some a => exact h a (List.mem_of_getElem? e)
theorem sumL_last {p q : Int} {u v : List Int} (hu : Gn' p q u) (hv : Gn' p q v) : (sumL u v).getLast? ≠ some 0 := by
  intro e
  rw [List.getLast?_eq_getElem?, sumL_len] at e
  have pos : 0 < max u.length v.length := by
    rcases Nat.eq_zero_or_pos (max u.length v.length) with z | z
    · have l := sumL_len u v
      rw [z] at l
      rw [List.length_eq_zero_iff.mp l] at e
      simp at e
    · exact z
  rw [sumL_get (by omega)] at e
  have e : u.getD (max u.length v.length - 1) 0 + v.getD (max u.length v.length - 1) 0 = 0 := Option.some.inj e
  have a := getD_mem (u := u) (i := max u.length v.length - 1) (P := fun x => 0 ≤ x) (by decide) fun x hx => (hu.d x hx).1
  have b := getD_mem (u := v) (i := max u.length v.length - 1) (P := fun x => 0 ≤ x) (by decide) fun x hx => (hv.d x hx).1
  have lastu : ∀ {w : List Int}, w ≠ [] → w.getLast? ≠ some 0 → w.getD (w.length - 1) 0 ≠ 0 := by
    intro w ne h z
    have l := List.length_pos_iff.mpr ne
    rw [List.getLast?_eq_getElem?, List.getElem?_eq_getElem (by omega)] at h
    rw [List.getD_eq_getElem?_getD, List.getElem?_eq_getElem (by omega)] at z
    exact h (congrArg some z)
  rcases Nat.le_total v.length u.length with z | z
  · rw [Nat.max_eq_left z] at *
    exact lastu (List.length_pos_iff.mp pos) hu.l (by omega)
  · rw [Nat.max_eq_right z] at *
    exact lastu (List.length_pos_iff.mp pos) hv.l (by omega)
theorem sumL_vw {p q : Int} (pq : PQ p q) {u v : List Int} (hu : Gn' p q u) (hv : Gn' p q v) (l1 : u.length ≤ 1000) (l2 : v.length ≤ 1000) : Vw (sumL u v) := by
  refine ⟨by rw [sumL_len]; omega, fun f hf => ?_⟩
  obtain ⟨i, hi, rfl⟩ := List.mem_iff_getElem.mp hf
  have e := sumL_get (u := u) (v := v) (i := i) (by rw [← sumL_len]; exact hi)
  rw [List.getElem?_eq_getElem hi] at e
  have e : (sumL u v)[i] = u.getD i 0 + v.getD i 0 := Option.some.inj e
  rw [e]
  have a := getD_mem (u := u) (i := i) (P := fun x => 0 ≤ x ∧ x < p) ⟨by decide, by have := pq.q2; have := pq.qp; omega⟩ hu.d
  have b := getD_mem (u := v) (i := i) (P := fun x => 0 ≤ x ∧ x < p) ⟨by decide, by have := pq.q2; have := pq.qp; omega⟩ hv.d
  have := pq.p10
  omega
theorem crd_vw {p q : Int} (pq : PQ p q) {w : List Int} (h : Vw w) : (crd p q w).length ≤ 2200 ∧ ∀ d ∈ crd p q w, 0 ≤ d ∧ d < p := by
  obtain ⟨l, d⟩ := cr_len pq (w := w) (Int.le_refl 0) (by decide) h.f
  have n := h.n
  have t := trm_len (cr p q 0 w)
  exact ⟨by unfold crd; omega, fun x hx => d x (trm_mem hx)⟩
theorem sb_crd {p q : Int} (pq : PQ p q) {w : List Int} (h : Vw w) : Sb (.tuple (isD (crd p q w))) := by
  obtain ⟨l, d⟩ := crd_vw pq h
  refine sb_w (fun i hi => ?_) (by omega)
  have := d i hi
  have := pq.p10
  exact ⟨Int.lt_of_lt_of_le (by decide) (d i hi).1, Int.lt_of_lt_of_le (d i hi).2 (Int.le_trans pq.p10 (by decide))⟩
theorem sb_gn {p q : Int} (pq : PQ p q) {w : List Int} (h : Gn' p q w) (l : w.length ≤ 8000) : Sb (.tuple (isD w)) := sb_w (fun i hi => ⟨Int.lt_of_lt_of_le (by decide) (h.d i hi).1, Int.lt_of_lt_of_le (h.d i hi).2 (Int.le_trans pq.p10 (by decide))⟩) l
theorem sb_vw {w : List Int} (h : Vw w) : Sb (.tuple (isD w)) := sb_w (fun i hi => ⟨Int.lt_of_lt_of_le (by decide) (h.f i hi).1, Int.lt_of_le_of_lt (h.f i hi).2 (by decide)⟩) (Nat.le_trans h.n (by decide))
theorem sb_n1 {n : Int} (h0 : 0 ≤ n) (h1 : n ≤ 10 ^ 40) : Sb (prd (n, 1)) := by
  have l := log2_lt (nat_bd (i := n) (k := 240) (Int.lt_of_lt_of_le (by decide) h0) (Int.lt_of_le_of_lt h1 (by decide))) (by decide)
  exact sb_prd (by omega) (by decide +kernel)
theorem sb_bvl {p q : Int} (pq : PQ p q) {w : List Int} (h : Vw w) : Sb (prd (bvl p q w)) := by
  obtain ⟨a0, a1, b0, b1⟩ := h.b pq
  have r := least_rng a0 (show 0 < q ^ w.length by omega)
  have l1 := b9_log (b := (bvl p q w).1) r.1 (Int.le_trans r.2.1 a1)
  have l2 := b9_log (b := (bvl p q w).2) (Int.le_trans (by decide) r.2.2.1) (Int.le_trans r.2.2.2.1 b1)
  exact sb_prd (Nat.lt_trans l1 (by decide)) (Nat.lt_trans l2 (by decide))
theorem drop_rev {w : List Int} {j : Nat} {z : Int} (h : w.reverse[j]? = some z) : w.drop (w.length - (j + 1)) = z :: w.drop (w.length - j) ∧ j < w.length := by
  have lt := (List.getElem?_eq_some_iff.mp h).1
  rw [List.length_reverse] at lt
  rw [List.getElem?_reverse lt] at h
  obtain ⟨l, e⟩ := List.getElem?_eq_some_iff.mp h
  refine ⟨?_, lt⟩
  rw [show w.length - (j + 1) = w.length - 1 - j by omega, List.drop_eq_getElem_cons l, e, show w.length - 1 - j + 1 = w.length - j by omega]
theorem rev_isD (w : List Int) : (isD w).reverse = isD w.reverse := by rw [isD, isD, List.map_reverse]
theorem rgI_eq {lo : Int} {n : Nat} : rgS lo n = ((isD ((List.range n).map fun i => lo + (i : Nat))).map SV.d) := by
  unfold rgS isD
  rw [List.map_map, List.map_map]; rfl
theorem p10_le {j : Nat} (h : j ≤ 30) : (1 : Int) ≤ 10 ^ j ∧ (10 : Int) ^ j ≤ 10 ^ 30 := by
  have e : ((10 ^ j : Nat) : Int) = 10 ^ j := by simp
  have e2 : ((10 ^ 30 : Nat) : Int) = 10 ^ 30 := by simp
  rw [← e, ← e2]
  exact ⟨Int.ofNat_le.mpr (Nat.pow_pos (by decide)), Int.ofNat_le.mpr (Nat.pow_le_pow_right (by decide) h)⟩
theorem lc_fmI {is : List Int} {Kp : Om → Prop} {Ω1 : Om} {turn : SV → Om → (SV → Om → Prop) → (Om → Prop) → Prop} {m : Mode} {Φ : PhiE} (pb : Int → Bool) (f : Int → PyData) (J : Om → Prop) (hl : is.length ≤ 1000000) (j0 : J Ω1) (kp : ∀ Ω, J Ω → Kp Ω)
    (t : ∀ d Ω (Y : SV → Om → Prop) (N : Om → Prop), d ∈ is → J Ω → (pb d = true → ∀ Ω', J Ω' → Y (.d (f d)) Ω') → (pb d = false → ∀ Ω', J Ω' → N Ω') → turn (I d) Ω Y N)
    (fin : ∀ Ω, J Ω → newL m ((is.filter pb).map f) Ω Φ) : LcS m ((isD is).map SV.d) Kp Ω1 turn Φ := by
  refine ⟨by rw [List.length_map, len_isD]; exact hl, fun i acc Ω => acc = (((is.take i).filter pb).map f).map SV.d ∧ J Ω, ⟨rfl, j0⟩, fun i acc Ω ⟨h1, h2⟩ => ⟨kp _ h2, ?_⟩, ?_, ?_⟩
  · rw [h1, List.length_map, List.length_map]
    exact Nat.le_trans (List.length_filter_le ..) (by rw [List.length_take]; omega)
  · rintro i x acc Ω e ⟨rfl, j⟩
    obtain ⟨d, h1, rfl⟩ := get_isD e
    have tk : is.take (i + 1) = is.take i ++ [d] := by rw [List.take_add_one, h1]; rfl
    refine t d Ω _ _ (List.mem_of_getElem? h1) j (fun hp Ω' j' => ⟨?_, j'⟩) fun hp Ω' j' => ⟨?_, j'⟩
    · rw [tk, List.filter_append, List.map_append, List.map_append]
      simp [hp]
    · rw [tk, List.filter_append]
      simp [hp]
  · rintro acc Ω ⟨rfl, j⟩
    rw [List.length_map, len_isD, List.take_length]
    exact newX_d (fin Ω j)
def pqL (p : Int) : List PyData := (((List.range (p - 2).toNat).map fun i => (2 : Int) + (i : Nat)).filter fun q => pqB p.toNat q.toNat).map fun q => prd (p, q)
theorem pqL_ok {p : Int} (h0 : 3 ≤ p) (h1 : p ≤ 10) : (∀ d ∈ pqL p, ∃ p q, d = prd (p, q) ∧ PQ p q) ∧ (pqL p).length ≤ 10 ∧ (p = 3 → pqL p ≠ []) := by
  refine ⟨fun d hd => ?_, ?_, ?_⟩
  · unfold pqL at hd
    obtain ⟨q, hq, rfl⟩ := List.mem_map.mp hd
    obtain ⟨hq, hb⟩ := List.mem_filter.mp hq
    obtain ⟨i, hi, rfl⟩ := List.mem_map.mp hq
    have := List.mem_range.mp hi
    exact ⟨p, _, rfl, .mk' (by omega) (by omega) h1 hb⟩
  · unfold pqL
    rw [List.length_map]
    refine Nat.le_trans (List.length_filter_le ..) ?_
    rw [List.length_map, List.length_range]
    omega
  · rintro rfl
    decide +kernel
theorem rng_getD (l : List Int) (n : Nat) (h : n = l.length) : (List.range n).map (fun i => PyData.int (l.getD i 0)) = isD l := by
  subst h
  unfold isD
  refine List.ext_getElem? fun i => ?_
  rw [List.getElem?_map, List.getElem?_map]
  rcases Nat.lt_or_ge i l.length with z | z
  · rw [List.getElem?_range z, List.getElem?_eq_getElem z]
    show some (PyData.int (l.getD i 0)) = some (PyData.int _)
    rw [List.getD_eq_getElem?_getD, List.getElem?_eq_getElem z]; rfl
  · rw [List.getElem?_eq_none z, List.getElem?_eq_none (by rw [List.length_range]; exact z)]; rfl
theorem fill_isD (u : List Int) (k : Int) : isD u ++ repD [PyData.int 0] k = isD (u ++ List.replicate k.toNat 0) := by
  rw [← app_isD]
  congr 1
  unfold repD isD
  rw [List.map_replicate]
  generalize k.toNat = n
  induction n with
  | zero => rfl
  | succ n ih => rw [List.replicate_succ, List.flatten_cons, ih, List.replicate_succ]; rfl
theorem rep_isD (k : Int) : repD [PyData.int 0] k = isD (List.replicate k.toNat 0) := by
  have := fill_isD [] k
  simpa [isD] using this
theorem mul_vw {u : List Int} {p t : Int} (h : ∀ f ∈ u, 0 ≤ f ∧ f < p) (p10 : p ≤ 10) (l : u.length ≤ 2000) (t0 : 0 ≤ t) (t1 : t ≤ 1000) : Vw (u.map fun f => t * f) := ⟨by rw [List.length_map]; exact l, fun x hx => by
  obtain ⟨f, hf, rfl⟩ := List.mem_map.mp hx
  have := h f hf
  have a := Int.mul_nonneg t0 this.1
  have b : t * f ≤ 1000 * 10 := Int.mul_le_mul t1 (by omega) this.1 (by decide)
  omega⟩
theorem trm_vw {u : List Int} (h : Vw u) : Vw (trm u) := ⟨Nat.le_trans (trm_len u) h.n, fun f hf => h.f f (trm_mem hf)⟩
theorem set_isD (w : List Int) (i : Nat) (z : Int) : (isD w).set i (.int z) = isD (w.set i z) := by
  unfold isD
  rw [List.map_set]
theorem ix_isD' {w : List Int} {i : Nat} (h : i < w.length) : ixN (isD w).length (i : Int) = some i := by
  rw [len_isD]
  unfold ixN
  rw [if_pos (by omega), Int.toNat_natCast, if_pos (by omega)]
theorem set_mem {w : List Int} {i : Nat} {z f : Int} (h : f ∈ w.set i z) : f ∈ w ∨ f = z := List.mem_or_eq_of_mem_set h
theorem ix_end {n : Nat} (h : 0 < n) : ixN n (-1) = some (n - 1) := by
  unfold ixN
  rw [if_neg (by decide), if_pos (by omega)]
  congr 1
  omega
theorem ix_i {w : List Int} {i : Int} (h0 : 0 ≤ i) (h : i.toNat < w.length) : ixN (isD w).length i = some i.toNat := by
  have := ix_isD' h
  rwa [Int.toNat_of_nonneg h0] at this
theorem take_dig {p : Int} {is : List Int} {j : Nat} {a : Int} (h : ∀ i ∈ is.take j, 0 ≤ i ∧ i < p) (ha : is[j]? = some a) (d : 0 ≤ a ∧ a < p) : ∀ i ∈ is.take (j + 1), 0 ≤ i ∧ i < p := by
  intro i hi
  rw [List.take_add_one, ha] at hi
  rcases List.mem_append.mp hi with hi | hi
  · exact h i hi
  · simp at hi
    subst hi
    exact d
theorem fg_bad {p : Int} {is : List Int} {j : Nat} {a : Int} (h : ∀ i ∈ is.take j, 0 ≤ i ∧ i < p) (ha : is[j]? = some a) (d : ¬ (0 ≤ a ∧ a < p)) : fg p is 0 = some j := by
  obtain ⟨lt, e⟩ := List.getElem?_eq_some_iff.mp ha
  have s : is = is.take j ++ a :: is.drop (j + 1) := by
    rw [← e, ← List.drop_eq_getElem_cons lt, List.take_append_drop]
  have f := fg_at d (x := is.take j) (y := is.drop (j + 1)) (j := 0) h
  rw [← s] at f
  rw [f, List.length_take]
  congr 1
  omega
/-! ### what is put before the judge -/
structure El (p q : Int) (e : PyData) : Prop where
  mk' ::
  h : ∃ ds t, e = .tuple [.list ds, t] ∧ ds.length ≤ 1100 ∧ jd p q (.tuple ds) = t
theorem El.mk {p q : Int} {ds : List PyData} {t : PyData} (h : ds.length ≤ 1100) (h2 : jd p q (.tuple ds) = t) : El p q (.tuple [.list ds, t]) := ⟨_, _, rfl, h, h2⟩
structure Els (p q : Int) (n : Nat) (l : List PyData) : Prop where
  n : l.length ≤ n
  v : ∀ e ∈ l, El p q e
theorem Els.app {p q : Int} {n : Nat} {l : List PyData} {e : PyData} (h : Els p q n l) (he : El p q e) : Els p q (n + 1) (l ++ [e]) := ⟨by rw [List.length_append]; exact Nat.succ_le_succ h.n, fun d hd => (List.mem_append.mp hd).elim (h.v d) fun q => by obtain rfl := List.mem_singleton.mp q; exact he⟩
theorem Els.mono {p q : Int} {n m : Nat} {l : List PyData} (h : Els p q n l) (hm : n ≤ m) : Els p q m l := ⟨Nat.le_trans h.n hm, h.v⟩
theorem el_fig {p q : Int} {is : List Int} {j : Nat} {a : Int} (l : is.length ≤ 1000) (h : ∀ i ∈ is.take j, 0 ≤ i ∧ i < p) (ha : is[j]? = some a) (d : ¬ (0 ≤ a ∧ a < p)) : El p q (.tuple [.list (isD is), .tuple [.str "figure", .int (j : Nat)]]) := .mk (by rw [len_isD]; omega) (by rw [jd_is l, jdI_fig (fg_bad h ha d)]; rfl)
theorem el_form {p q : Int} {ds : List PyData} {d : PyData} (l : ds.length ≤ 1100) (h : d ∈ ds) (h2 : isI d = false) : El p q (.tuple [.list ds, .str "form"]) := .mk l (jd_bad h h2)
theorem el_long {p q : Int} {ds : List PyData} (l : ds.length ≤ 1100) (h : 1000 < ds.length) : El p q (.tuple [.list ds, .str "form"]) := .mk l (jd_long h)
theorem el_nought {p q : Int} {is : List Int} (pq : PQ p q) (l : (is ++ [0]).length ≤ 1000) (h : ∀ i ∈ is, 0 ≤ i ∧ i < p) : El p q (.tuple [.list (isD (is ++ [0])), .str "nought"]) := .mk (by rw [len_isD]; omega) (by
  rw [jd_is l]
  refine jdI_nought (fg_none fun i hi => ?_) (by simp)
  rcases List.mem_append.mp hi with hi | hi
  · exact h i hi
  · obtain rfl := List.mem_singleton.mp hi
    have := pq.q2
    have := pq.qp
    omega)
theorem split_at {is : List Int} {j : Nat} {i : Int} (h : is[j]? = some i) : is = is.take j ++ i :: is.drop (j + 1) := by
  obtain ⟨lt, e⟩ := List.getElem?_eq_some_iff.mp h
  rw [← e, ← List.drop_eq_getElem_cons lt, List.take_append_drop]
theorem el_whole {p q : Int} {w : List Int} {j : Nat} {a b : Int} (pq : PQ p q) (g : Gn' p q w) (l : w.length ≤ 1000) (ha : w[j]? = some a) (ab : a - b = 1 ∨ a - b = -1) (db : 0 ≤ b ∧ b < p) (last : j + 1 < w.length ∨ b ≠ 0) : El p q (.tuple [.list (isD (w.take j ++ b :: w.drop (j + 1))), .str "whole"]) := by
  have lt := (List.getElem?_eq_some_iff.mp ha).1
  have ln : (w.take j ++ b :: w.drop (j + 1)).length = w.length := by simp only [List.length_append, List.length_take, List.length_cons, List.length_drop]; omega
  refine .mk (by rw [len_isD]; omega) ?_
  rw [jd_is (by omega)]
  refine jdI_whole (fg_none fun i hi => ?_) (fun e => ?_) fun n hn => ?_
  · rcases List.mem_append.mp hi with hi | hi
    · exact g.d i (List.mem_of_mem_take hi)
    · rcases List.mem_cons.mp hi with rfl | hi
      · exact db
      · exact g.d i (List.mem_of_mem_drop hi)
  · rcases Nat.lt_or_ge (j + 1) w.length with z | z
    · have ne : w.drop (j + 1) ≠ [] := by intro h; have := List.drop_eq_nil_iff.mp h; omega
      have e2 : (w.take j ++ b :: w.drop (j + 1)).getLast? = w.getLast? := by
        have e3 : (b :: w.drop (j + 1)).getLast? = (w.drop (j + 1)).getLast? := by
          cases h : w.drop (j + 1) with
          | nil => exact absurd h ne
          | cons c r => rw [List.getLast?_cons_cons]
        rw [List.getLast?_append, e3]
        have e4 : (w.drop (j + 1)).getLast? = w.getLast? := by
          rw [List.getLast?_drop, if_neg (by omega)]
        rw [e4]
        cases h : w.getLast? with
        | none => rw [List.getLast?_eq_none_iff] at h; rw [h] at lt; simp at lt
        | some c => rfl
      rw [e2] at e
      exact g.l e
    · have dn : w.drop (j + 1) = [] := List.drop_eq_nil_iff.mpr z
      rw [dn] at e
      simp at e
      rcases last with h | h
      · omega
      · exact h e
  · obtain ⟨m, hm⟩ := g.v
    rw [split_at ha] at hm
    exact wn_near pq ab hm hn
theorem gen_cell {s : AS} {D : _} {ρ : Rho} {a : Addr} {l : List PyData} {Ω : Om} (P : List PyData → Prop) (hl : P l) (h : ∀ l, P l → s D ρ ((a, .lst l) :: Ω)) : s D ρ ((a, .lst l) :: Ω) := h l hl
end KK
/-! C82: what the defs of k82 keep. -/
namespace KK
open PySem PySem.Spec PyProof.Rows L2 Z
abbrev c_l_own_bag : Con := OwnC 63
abbrev c_l_draw : Con := DrawC
abbrev c_l_pick : Con := PickC
abbrev c_l_same : Con := SameB
theorem ari_l_own_bag : Ari c_l_own_bag 1 := OwnC.ari
theorem ari_l_draw : Ari c_l_draw 2 := DrawC.ari
theorem ari_l_pick : Ari c_l_pick 2 := PickC.ari
theorem ari_l_same : Ari c_l_same 2 := SameB.ari
abbrev c_law : Con := LawC 63
theorem ari_law : Ari c_law 1 := LawC.ari
inductive c_is_number : Con where
  | mk {d : PyData} {Ω : Om} {Φ : PhiE} {Ξ : XA} : Φ (.d (.bool (isI d))) Ω → c_is_number [.d d] Ω Φ Ξ
theorem ari_is_number : Ari c_is_number 1 := by rintro _ _ _ _ ⟨_⟩; rfl
inductive c_trimmed : Con where
  | mk {is : List Int} {Ω : Om} {Φ : PhiE} {Ξ : XA} : is.length ≤ 8000 → Φ (T (isD (trm is))) Ω → c_trimmed [.d (.list (isD is))] Ω Φ Ξ
theorem ari_trimmed : Ari c_trimmed 1 := by rintro _ _ _ _ ⟨_⟩; rfl
inductive c_word_sum : Con where
  | mk {u v : List Int} {Ω : Om} {Φ : PhiE} {Ξ : XA} : u.length ≤ 1000 → v.length ≤ 1000 → Φ (T (isD (trm (sumL u v)))) Ω → c_word_sum [T (isD u), T (isD v)] Ω Φ Ξ
theorem ari_word_sum : Ari c_word_sum 2 := by rintro _ _ _ _ ⟨_⟩; rfl
inductive c_times_word : Con where
  | mk {u : List Int} {t : Int} {Ω : Om} {Φ : PhiE} {Ξ : XA} : u.length ≤ 1000 → (∀ f ∈ u, 0 ≤ f ∧ f < 10) → 0 ≤ t → t ≤ 1000 → Φ (T (isD (trm (u.map fun f => t * f)))) Ω → c_times_word [T (isD u), I t] Ω Φ Ξ
theorem ari_times_word : Ari c_times_word 2 := by rintro _ _ _ _ ⟨_⟩; rfl
inductive c_broken_figures : Con where
  | mk {n p q : Int} {Ω : Om} {Φ : PhiE} {Ξ : XA} : PQ p q → 0 ≤ n → n ≤ 10 ^ 40 → Φ (T (isD (bfW p q n))) Ω → c_broken_figures [I n, I p, I q] Ω Φ Ξ
theorem ari_broken_figures : Ari c_broken_figures 3 := by rintro _ _ _ _ ⟨_⟩; rfl
inductive c_broken_value : Con where
  | mk {p q : Int} {w : List Int} {Ω : Om} {Φ : PhiE} {Ξ : XA} : PQ p q → Vw w → Φ (.d (prd (bvl p q w))) Ω → c_broken_value [T (isD w), I p, I q] Ω Φ Ξ
theorem ari_broken_value : Ari c_broken_value 3 := by rintro _ _ _ _ ⟨_⟩; rfl
inductive c_broken_carried : Con where
  | mk {p q : Int} {w : List Int} {Ω : Om} {Φ : PhiE} {Ξ : XA} : PQ p q → Vw w → Φ (T (isD (crd p q w))) Ω → c_broken_carried [T (isD w), I p, I q] Ω Φ Ξ
theorem ari_broken_carried : Ari c_broken_carried 3 := by rintro _ _ _ _ ⟨_⟩; rfl
inductive c_broken_error : Con where
  | mk {p q : Int} {d : PyData} {Ω : Om} {Φ : PhiE} {Ξ : XA} : PQ p q → lenOk d → Φ (.d (jd p q d)) Ω → c_broken_error [.d d, I p, I q] Ω Φ Ξ
theorem ari_broken_error : Ari c_broken_error 3 := by rintro _ _ _ _ ⟨_⟩; rfl
inductive c_l_great : Con where
  | mk {x : SV} {L R : Om} {b : Int} {Ω : Om} {Φ : PhiE} {Ξ : XA} : Bag x L R Ω → 1 ≤ b → b ≤ 10 ^ 31 → (∀ r Ω', 0 ≤ r → r < b → Bag x L R Ω' → Φ (I r) Ω') → c_l_great [x, I b] Ω Φ Ξ
theorem ari_l_great : Ari c_l_great 2 := by rintro _ _ _ _ ⟨_⟩; rfl
inductive c_l_pairs : Con where
  | mk  {Ω : Om} {Φ : PhiE} {Ξ : XA} : (∀ l, l ≠ [] → l.length ≤ 100 → (∀ d ∈ l, ∃ p q, d = prd (p, q) ∧ PQ p q) → Φ (.d (.list l)) Ω) → c_l_pairs [] Ω Φ Ξ
theorem ari_l_pairs : Ari c_l_pairs 0 := by rintro _ _ _ _ ⟨_⟩; rfl
inductive c_l_number : Con where
  | mk {x : SV} {L R : Om}  {Ω : Om} {Φ : PhiE} {Ξ : XA} : Bag x L R Ω → (∀ n Ω', 0 ≤ n → n ≤ 10 ^ 31 → Bag x L R Ω' → Φ (I n) Ω') → c_l_number [x] Ω Φ Ξ
theorem ari_l_number : Ari c_l_number 1 := by rintro _ _ _ _ ⟨_⟩; rfl
inductive c_l_figures : Con where
  | mk {n p q : Int} {Ω : Om} {Φ : PhiE} {Ξ : XA} : PQ p q → 0 ≤ n → n ≤ 10 ^ 40 → Φ (T (isD (bfW p q n))) Ω → c_l_figures [I n, I p, I q] Ω Φ Ξ
theorem ari_l_figures : Ari c_l_figures 3 := by rintro _ _ _ _ ⟨_⟩; rfl
inductive c_l_carried : Con where
  | mk {p q : Int} {w : List Int} {Ω : Om} {Φ : PhiE} {Ξ : XA} : PQ p q → Vw w → Φ (T (isD (crd p q w))) Ω → c_l_carried [T (isD w), I p, I q] Ω Φ Ξ
theorem ari_l_carried : Ari c_l_carried 3 := by rintro _ _ _ _ ⟨_⟩; rfl
inductive c_l_value : Con where
  | mk {p q : Int} {w : List Int} {Ω : Om} {Φ : PhiE} {Ξ : XA} : PQ p q → Vw w → Φ (.d (prd (bvl p q w))) Ω → c_l_value [T (isD w), I p, I q] Ω Φ Ξ
theorem ari_l_value : Ari c_l_value 3 := by rintro _ _ _ _ ⟨_⟩; rfl
inductive c_l_judged : Con where
  | mk {p q : Int} {d : PyData} {Ω : Om} {Φ : PhiE} {Ξ : XA} : PQ p q → lenOk d → Φ (.d (jd p q d)) Ω → c_l_judged [.d d, I p, I q] Ω Φ Ξ
theorem ari_l_judged : Ari c_l_judged 3 := by rintro _ _ _ _ ⟨_⟩; rfl
inductive c_l_grown : Con where
  | mk {x : SV} {L R : Om} {p q m : Int} {Ω : Om} {Φ : PhiE} {Ξ : XA} : Bag x L R Ω → PQ p q → 1 ≤ m → m ≤ 1001 → (∀ w Ω', Gn' p q w → (w.length : Int) = m → Bag x L R Ω' → Φ (T (isD w)) Ω') → c_l_grown [x, I p, I q, I m] Ω Φ Ξ
theorem ari_l_grown : Ari c_l_grown 4 := by rintro _ _ _ _ ⟨_⟩; rfl
inductive c_l_are_numbers_right : Con where
  | mk {x : SV} {L R : Om} {p q r s : Int} {Ω : Om} {Φ : PhiE} {Ξ : XA} : Bag x L R Ω → PQ p q → PQ r s → (∀ Ω', Bag x L R Ω' → Φ (.d (.bool true)) Ω') → c_l_are_numbers_right [x, I p, I q, .d (prd (r, s))] Ω Φ Ξ
theorem ari_l_are_numbers_right : Ari c_l_are_numbers_right 4 := by rintro _ _ _ _ ⟨_⟩; rfl
inductive c_l_are_sums_right : Con where
  | mk {x : SV} {L R : Om} {p q : Int} {Ω : Om} {Φ : PhiE} {Ξ : XA} : Bag x L R Ω → PQ p q → (∀ Ω', Bag x L R Ω' → Φ (.d (.bool true)) Ω') → c_l_are_sums_right [x, I p, I q] Ω Φ Ξ
theorem ari_l_are_sums_right : Ari c_l_are_sums_right 3 := by rintro _ _ _ _ ⟨_⟩; rfl
inductive c_l_are_products_right : Con where
  | mk {x : SV} {L R : Om} {p q : Int} {Ω : Om} {Φ : PhiE} {Ξ : XA} : Bag x L R Ω → PQ p q → (∀ Ω', Bag x L R Ω' → Φ (.d (.bool true)) Ω') → c_l_are_products_right [x, I p, I q] Ω Φ Ξ
theorem ari_l_are_products_right : Ari c_l_are_products_right 3 := by rintro _ _ _ _ ⟨_⟩; rfl
inductive c_l_are_put_down_right : Con where
  | mk {x : SV} {L R : Om} {p q : Int} {Ω : Om} {Φ : PhiE} {Ξ : XA} : Bag x L R Ω → PQ p q → (∀ Ω', Bag x L R Ω' → Φ (.d (.bool true)) Ω') → c_l_are_put_down_right [x, I p, I q] Ω Φ Ξ
theorem ari_l_are_put_down_right : Ari c_l_are_put_down_right 3 := by rintro _ _ _ _ ⟨_⟩; rfl
inductive c_l_are_any_right : Con where
  | mk {x : SV} {L R : Om} {p q : Int} {Ω : Om} {Φ : PhiE} {Ξ : XA} : Bag x L R Ω → PQ p q → (∀ Ω', Bag x L R Ω' → Φ (.d (.bool true)) Ω') → c_l_are_any_right [x, I p, I q] Ω Φ Ξ
theorem ari_l_are_any_right : Ari c_l_are_any_right 3 := by rintro _ _ _ _ ⟨_⟩; rfl
inductive c_l_are_long_judged : Con where
  | mk {x : SV} {L R : Om} {p q : Int} {Ω : Om} {Φ : PhiE} {Ξ : XA} : Bag x L R Ω → PQ p q → (∀ Ω', Bag x L R Ω' → Φ (.d (.bool true)) Ω') → c_l_are_long_judged [x, I p, I q] Ω Φ Ξ
theorem ari_l_are_long_judged : Ari c_l_are_long_judged 3 := by rintro _ _ _ _ ⟨_⟩; rfl
inductive c_l_are_short_judged : Con where
  | mk {x : SV} {L R : Om} {p q : Int} {Ω : Om} {Φ : PhiE} {Ξ : XA} : Bag x L R Ω → PQ p q → (∀ Ω', Bag x L R Ω' → Φ (.d (.bool true)) Ω') → c_l_are_short_judged [x, I p, I q] Ω Φ Ξ
theorem ari_l_are_short_judged : Ari c_l_are_short_judged 3 := by rintro _ _ _ _ ⟨_⟩; rfl
end KK
namespace KK
open PySem PySem.Spec PyProof.Rows L2 Z
def topS (i : Nat) : Stmt := PySem.Challenge.pw_manybases_k82_whole_main_broken_words.main.body.getD i (.Pass ⟨0, 0, 0, 0⟩)
abbrev s_is_number : Stmt := topS 3
abbrev N_is_number : List Str := ["value"]
theorem sc_is_number : FnScope N_is_number ["value"] (defScope s_is_number) := ⟨rfl, rfl, rfl, by decide +kernel, rfl, by decide +kernel, by decide +kernel⟩
abbrev s_trimmed : Stmt := topS 4
abbrev N_trimmed : List Str := ["word", "size"]
theorem sc_trimmed : FnScope N_trimmed ["word"] (defScope s_trimmed) := ⟨rfl, rfl, rfl, by decide +kernel, rfl, by decide +kernel, by decide +kernel⟩
abbrev s_word_sum : Stmt := topS 5
abbrev N_word_sum : List Str := ["one", "other", "size", "first", "second", "here", "there"]
theorem sc_word_sum : FnScope N_word_sum ["one", "other"] (defScope s_word_sum) := ⟨rfl, rfl, rfl, by decide +kernel, rfl, by decide +kernel, by decide +kernel⟩
abbrev s_times_word : Stmt := topS 6
abbrev N_times_word : List Str := ["word", "number", "figure"]
theorem sc_times_word : FnScope N_times_word ["word", "number"] (defScope s_times_word) := ⟨rfl, rfl, rfl, by decide +kernel, rfl, by decide +kernel, by decide +kernel⟩
abbrev s_broken_figures : Stmt := topS 8
abbrev N_broken_figures : List Str := ["number", "p", "q", "found"]
theorem sc_broken_figures : FnScope N_broken_figures ["number", "p", "q"] (defScope s_broken_figures) := ⟨rfl, rfl, rfl, by decide +kernel, rfl, by decide +kernel, by decide +kernel⟩
abbrev s_broken_value : Stmt := topS 9
abbrev N_broken_value : List Str := ["word", "p", "q", "above", "below", "figure", "common"]
theorem sc_broken_value : FnScope N_broken_value ["word", "p", "q"] (defScope s_broken_value) := ⟨rfl, rfl, rfl, by decide +kernel, rfl, by decide +kernel, by decide +kernel⟩
abbrev s_broken_carried : Stmt := topS 10
abbrev N_broken_carried : List Str := ["word", "p", "q", "found", "more", "place", "total"]
theorem sc_broken_carried : FnScope N_broken_carried ["word", "p", "q"] (defScope s_broken_carried) := ⟨rfl, rfl, rfl, by decide +kernel, rfl, by decide +kernel, by decide +kernel⟩
abbrev s_broken_error : Stmt := topS 11
abbrev N_broken_error : List Str := ["value", "p", "q", "place", "figure", "item"]
theorem sc_broken_error : FnScope N_broken_error ["value", "p", "q"] (defScope s_broken_error) := ⟨rfl, rfl, rfl, by decide +kernel, rfl, by decide +kernel, by decide +kernel⟩
abbrev s_l_own_bag : Stmt := topS 13
abbrev N_l_own_bag : List Str := ["script", "cells", "mixed", "cell"]
theorem sc_l_own_bag : FnScope N_l_own_bag ["script"] (defScope s_l_own_bag) := ⟨rfl, rfl, rfl, by decide +kernel, rfl, by decide +kernel, by decide +kernel⟩
abbrev s_l_draw : Stmt := topS 14
abbrev N_l_draw : List Str := ["bag", "below", "cell", "found"]
theorem sc_l_draw : FnScope N_l_draw ["bag", "below"] (defScope s_l_draw) := ⟨rfl, rfl, rfl, by decide +kernel, rfl, by decide +kernel, by decide +kernel⟩
abbrev s_l_pick : Stmt := topS 15
abbrev N_l_pick : List Str := ["bag", "some"]
theorem sc_l_pick : FnScope N_l_pick ["bag", "some"] (defScope s_l_pick) := ⟨rfl, rfl, rfl, by decide +kernel, rfl, by decide +kernel, by decide +kernel⟩
abbrev s_l_great : Stmt := topS 16
abbrev N_l_great : List Str := ["bag", "below", "found", "room"]
theorem sc_l_great : FnScope N_l_great ["bag", "below"] (defScope s_l_great) := ⟨rfl, rfl, rfl, by decide +kernel, rfl, by decide +kernel, by decide +kernel⟩
abbrev s_l_same : Stmt := topS 17
abbrev N_l_same : List Str := ["found", "due"]
theorem sc_l_same : FnScope N_l_same ["found", "due"] (defScope s_l_same) := ⟨rfl, rfl, rfl, by decide +kernel, rfl, by decide +kernel, by decide +kernel⟩
abbrev s_l_pairs : Stmt := topS 18
abbrev N_l_pairs : List Str := ["found", "p", "q", "r"]
theorem sc_l_pairs : FnScope N_l_pairs [] (defScope s_l_pairs) := ⟨rfl, rfl, rfl, by decide +kernel, rfl, by decide +kernel, by decide +kernel⟩
abbrev s_l_number : Stmt := topS 19
abbrev N_l_number : List Str := ["bag", "kind", "top", "turn"]
theorem sc_l_number : FnScope N_l_number ["bag"] (defScope s_l_number) := ⟨rfl, rfl, rfl, by decide +kernel, rfl, by decide +kernel, by decide +kernel⟩
abbrev s_l_figures : Stmt := topS 20
abbrev N_l_figures : List Str := ["number", "p", "q", "found"]
theorem sc_l_figures : FnScope N_l_figures ["number", "p", "q"] (defScope s_l_figures) := ⟨rfl, rfl, rfl, by decide +kernel, rfl, by decide +kernel, by decide +kernel⟩
abbrev s_l_carried : Stmt := topS 21
abbrev N_l_carried : List Str := ["word", "p", "q", "found", "over", "figure"]
theorem sc_l_carried : FnScope N_l_carried ["word", "p", "q"] (defScope s_l_carried) := ⟨rfl, rfl, rfl, by decide +kernel, rfl, by decide +kernel, by decide +kernel⟩
abbrev s_l_value : Stmt := topS 22
abbrev N_l_value : List Str := ["word", "p", "q", "above", "below", "figure", "r"]
theorem sc_l_value : FnScope N_l_value ["word", "p", "q"] (defScope s_l_value) := ⟨rfl, rfl, rfl, by decide +kernel, rfl, by decide +kernel, by decide +kernel⟩
abbrev s_l_judged : Stmt := topS 23
abbrev N_l_judged : List Str := ["value", "p", "q", "j", "item", "number", "figure"]
theorem sc_l_judged : FnScope N_l_judged ["value", "p", "q"] (defScope s_l_judged) := ⟨rfl, rfl, rfl, by decide +kernel, rfl, by decide +kernel, by decide +kernel⟩
abbrev s_l_grown : Stmt := topS 24
abbrev N_l_grown : List Str := ["bag", "p", "q", "many", "turns", "rows", "number", "j", "least", "turn"]
theorem sc_l_grown : FnScope N_l_grown ["bag", "p", "q", "many"] (defScope s_l_grown) := ⟨rfl, rfl, rfl, by decide +kernel, rfl, by decide +kernel, by decide +kernel⟩
abbrev s_l_are_numbers_right : Stmt := topS 25
abbrev N_l_are_numbers_right : List Str := ["bag", "p", "q", "other", "number", "due"]
theorem sc_l_are_numbers_right : FnScope N_l_are_numbers_right ["bag", "p", "q", "other"] (defScope s_l_are_numbers_right) := ⟨rfl, rfl, rfl, by decide +kernel, rfl, by decide +kernel, by decide +kernel⟩
abbrev s_l_are_sums_right : Stmt := topS 26
abbrev N_l_are_sums_right : List Str := ["bag", "p", "q", "one", "other", "most", "row", "more", "added", "due", "told", "times", "j", "figure"]
theorem sc_l_are_sums_right : FnScope N_l_are_sums_right ["bag", "p", "q"] (defScope s_l_are_sums_right) := ⟨rfl, rfl, rfl, by decide +kernel, rfl, by decide +kernel, by decide +kernel⟩
abbrev s_l_are_products_right : Stmt := topS 27
abbrev N_l_are_products_right : List Str := ["bag", "p", "q", "one", "other", "few", "many", "row", "i", "left", "j", "right", "word", "due"]
theorem sc_l_are_products_right : FnScope N_l_are_products_right ["bag", "p", "q"] (defScope s_l_are_products_right) := ⟨rfl, rfl, rfl, by decide +kernel, rfl, by decide +kernel, by decide +kernel⟩
abbrev s_l_are_put_down_right : Stmt := topS 28
abbrev N_l_are_put_down_right : List Str := ["bag", "p", "q", "number", "due", "turns", "row", "j", "times", "word", "turn"]
theorem sc_l_are_put_down_right : FnScope N_l_are_put_down_right ["bag", "p", "q"] (defScope s_l_are_put_down_right) := ⟨rfl, rfl, rfl, by decide +kernel, rfl, by decide +kernel, by decide +kernel⟩
abbrev s_l_are_any_right : Stmt := topS 29
abbrev N_l_are_any_right : List Str := ["bag", "p", "q", "many", "top", "piece", "row", "turn", "word", "value", "due"]
theorem sc_l_are_any_right : FnScope N_l_are_any_right ["bag", "p", "q"] (defScope s_l_are_any_right) := ⟨rfl, rfl, rfl, by decide +kernel, rfl, by decide +kernel, by decide +kernel⟩
abbrev s_l_are_long_judged : Stmt := topS 30
abbrev N_l_are_long_judged : List Str := ["bag", "p", "q", "many", "row", "at", "later", "some", "near", "twice", "mixed", "spoilt", "due"]
theorem sc_l_are_long_judged : FnScope N_l_are_long_judged ["bag", "p", "q"] (defScope s_l_are_long_judged) := ⟨rfl, rfl, rfl, by decide +kernel, rfl, by decide +kernel, by decide +kernel⟩
abbrev s_l_are_short_judged : Stmt := topS 31
abbrev N_l_are_short_judged : List Str := ["bag", "p", "q", "great", "some", "turn", "low", "high", "kept", "value", "item"]
theorem sc_l_are_short_judged : FnScope N_l_are_short_judged ["bag", "p", "q"] (defScope s_l_are_short_judged) := ⟨rfl, rfl, rfl, by decide +kernel, rfl, by decide +kernel, by decide +kernel⟩
abbrev s_law : Stmt := topS 32
abbrev N_law : List Str := ["script", "bag", "every", "first", "second", "p", "q"]
theorem sc_law : FnScope N_law ["script"] (defScope s_law) := ⟨rfl, rfl, rfl, by decide +kernel, rfl, by decide +kernel, by decide +kernel⟩
structure Top (K : PySem.W.Frag) (mg : Str → Option Value) where
  dg : DgK K
  f_is_number : Addr
  fd_is_number : FuncData
  F_is_number : Fun K "is_number" "is_number" s_is_number f_is_number fd_is_number
  m_is_number : mg "is_number" = some (.ref f_is_number)
  f_trimmed : Addr
  fd_trimmed : FuncData
  F_trimmed : Fun K "trimmed" "trimmed" s_trimmed f_trimmed fd_trimmed
  m_trimmed : mg "trimmed" = some (.ref f_trimmed)
  f_word_sum : Addr
  fd_word_sum : FuncData
  F_word_sum : Fun K "word_sum" "word_sum" s_word_sum f_word_sum fd_word_sum
  m_word_sum : mg "word_sum" = some (.ref f_word_sum)
  f_times_word : Addr
  fd_times_word : FuncData
  F_times_word : Fun K "times_word" "times_word" s_times_word f_times_word fd_times_word
  m_times_word : mg "times_word" = some (.ref f_times_word)
  f_broken_figures : Addr
  fd_broken_figures : FuncData
  F_broken_figures : Fun K "broken_figures" "broken_figures" s_broken_figures f_broken_figures fd_broken_figures
  m_broken_figures : mg "broken_figures" = some (.ref f_broken_figures)
  f_broken_value : Addr
  fd_broken_value : FuncData
  F_broken_value : Fun K "broken_value" "broken_value" s_broken_value f_broken_value fd_broken_value
  m_broken_value : mg "broken_value" = some (.ref f_broken_value)
  f_broken_carried : Addr
  fd_broken_carried : FuncData
  F_broken_carried : Fun K "broken_carried" "broken_carried" s_broken_carried f_broken_carried fd_broken_carried
  m_broken_carried : mg "broken_carried" = some (.ref f_broken_carried)
  f_broken_error : Addr
  fd_broken_error : FuncData
  F_broken_error : Fun K "broken_error" "broken_error" s_broken_error f_broken_error fd_broken_error
  m_broken_error : mg "broken_error" = some (.ref f_broken_error)
  f_l_own_bag : Addr
  fd_l_own_bag : FuncData
  F_l_own_bag : Fun K "_law_own_bag" "_law_own_bag" s_l_own_bag f_l_own_bag fd_l_own_bag
  m_l_own_bag : mg "_law_own_bag" = some (.ref f_l_own_bag)
  f_l_draw : Addr
  fd_l_draw : FuncData
  F_l_draw : Fun K "_law_draw" "_law_draw" s_l_draw f_l_draw fd_l_draw
  m_l_draw : mg "_law_draw" = some (.ref f_l_draw)
  f_l_pick : Addr
  fd_l_pick : FuncData
  F_l_pick : Fun K "_law_pick" "_law_pick" s_l_pick f_l_pick fd_l_pick
  m_l_pick : mg "_law_pick" = some (.ref f_l_pick)
  f_l_great : Addr
  fd_l_great : FuncData
  F_l_great : Fun K "_law_great" "_law_great" s_l_great f_l_great fd_l_great
  m_l_great : mg "_law_great" = some (.ref f_l_great)
  f_l_same : Addr
  fd_l_same : FuncData
  F_l_same : Fun K "_law_same" "_law_same" s_l_same f_l_same fd_l_same
  m_l_same : mg "_law_same" = some (.ref f_l_same)
  f_l_pairs : Addr
  fd_l_pairs : FuncData
  F_l_pairs : Fun K "_law_pairs" "_law_pairs" s_l_pairs f_l_pairs fd_l_pairs
  m_l_pairs : mg "_law_pairs" = some (.ref f_l_pairs)
  f_l_number : Addr
  fd_l_number : FuncData
  F_l_number : Fun K "_law_number" "_law_number" s_l_number f_l_number fd_l_number
  m_l_number : mg "_law_number" = some (.ref f_l_number)
  f_l_figures : Addr
  fd_l_figures : FuncData
  F_l_figures : Fun K "_law_figures" "_law_figures" s_l_figures f_l_figures fd_l_figures
  m_l_figures : mg "_law_figures" = some (.ref f_l_figures)
  f_l_carried : Addr
  fd_l_carried : FuncData
  F_l_carried : Fun K "_law_carried" "_law_carried" s_l_carried f_l_carried fd_l_carried
  m_l_carried : mg "_law_carried" = some (.ref f_l_carried)
  f_l_value : Addr
  fd_l_value : FuncData
  F_l_value : Fun K "_law_value" "_law_value" s_l_value f_l_value fd_l_value
  m_l_value : mg "_law_value" = some (.ref f_l_value)
  f_l_judged : Addr
  fd_l_judged : FuncData
  F_l_judged : Fun K "_law_judged" "_law_judged" s_l_judged f_l_judged fd_l_judged
  m_l_judged : mg "_law_judged" = some (.ref f_l_judged)
  f_l_grown : Addr
  fd_l_grown : FuncData
  F_l_grown : Fun K "_law_grown" "_law_grown" s_l_grown f_l_grown fd_l_grown
  m_l_grown : mg "_law_grown" = some (.ref f_l_grown)
  f_l_are_numbers_right : Addr
  fd_l_are_numbers_right : FuncData
  F_l_are_numbers_right : Fun K "_law_are_numbers_right" "_law_are_numbers_right" s_l_are_numbers_right f_l_are_numbers_right fd_l_are_numbers_right
  m_l_are_numbers_right : mg "_law_are_numbers_right" = some (.ref f_l_are_numbers_right)
  f_l_are_sums_right : Addr
  fd_l_are_sums_right : FuncData
  F_l_are_sums_right : Fun K "_law_are_sums_right" "_law_are_sums_right" s_l_are_sums_right f_l_are_sums_right fd_l_are_sums_right
  m_l_are_sums_right : mg "_law_are_sums_right" = some (.ref f_l_are_sums_right)
  f_l_are_products_right : Addr
  fd_l_are_products_right : FuncData
  F_l_are_products_right : Fun K "_law_are_products_right" "_law_are_products_right" s_l_are_products_right f_l_are_products_right fd_l_are_products_right
  m_l_are_products_right : mg "_law_are_products_right" = some (.ref f_l_are_products_right)
  f_l_are_put_down_right : Addr
  fd_l_are_put_down_right : FuncData
  F_l_are_put_down_right : Fun K "_law_are_put_down_right" "_law_are_put_down_right" s_l_are_put_down_right f_l_are_put_down_right fd_l_are_put_down_right
  m_l_are_put_down_right : mg "_law_are_put_down_right" = some (.ref f_l_are_put_down_right)
  f_l_are_any_right : Addr
  fd_l_are_any_right : FuncData
  F_l_are_any_right : Fun K "_law_are_any_right" "_law_are_any_right" s_l_are_any_right f_l_are_any_right fd_l_are_any_right
  m_l_are_any_right : mg "_law_are_any_right" = some (.ref f_l_are_any_right)
  f_l_are_long_judged : Addr
  fd_l_are_long_judged : FuncData
  F_l_are_long_judged : Fun K "_law_are_long_judged" "_law_are_long_judged" s_l_are_long_judged f_l_are_long_judged fd_l_are_long_judged
  m_l_are_long_judged : mg "_law_are_long_judged" = some (.ref f_l_are_long_judged)
  f_l_are_short_judged : Addr
  fd_l_are_short_judged : FuncData
  F_l_are_short_judged : Fun K "_law_are_short_judged" "_law_are_short_judged" s_l_are_short_judged f_l_are_short_judged fd_l_are_short_judged
  m_l_are_short_judged : mg "_law_are_short_judged" = some (.ref f_l_are_short_judged)
  f_law : Addr
  fd_law : FuncData
  F_law : Fun K "law" "law" s_law f_law fd_law
  m_law : mg "law" = some (.ref f_law)
  t_MAX_STRETCH : Tok
  m_MAX_STRETCH : mg "MAX_STRETCH" = some (.int 1000 t_MAX_STRETCH)
  i_gcd : mg "gcd" = some (.builtin "math.gcd")
  n_abs : mg "abs" = none
  n_all : mg "all" = none
  n_any : mg "any" = none
  n_bool : mg "bool" = none
  n_enumerate : mg "enumerate" = none
  n_int : mg "int" = none
  n_isinstance : mg "isinstance" = none
  n_len : mg "len" = none
  n_list : mg "list" = none
  n_max : mg "max" = none
  n_min : mg "min" = none
  n_range : mg "range" = none
  n_repr : mg "repr" = none
  n_reversed : mg "reversed" = none
  n_str : mg "str" = none
  n_tuple : mg "tuple" = none
  n_zip : mg "zip" = none
section
variable {K : PySem.W.Frag} {mg : Str → Option Value}
theorem b_is_number (T : Top K mg) : Binds K T.fd_is_number ["value"] [] := T.F_is_number.binds (ps := ["value"]) fun _ _ _ _ _ _ us hl => match us, hl with | [_], _ => rfl
theorem b_trimmed (T : Top K mg) : Binds K T.fd_trimmed ["word"] [] := T.F_trimmed.binds (ps := ["word"]) fun _ _ _ _ _ _ us hl => match us, hl with | [_], _ => rfl
theorem b_word_sum (T : Top K mg) : Binds K T.fd_word_sum ["one", "other"] [] := T.F_word_sum.binds (ps := ["one", "other"]) fun _ _ _ _ _ _ us hl => match us, hl with | [_, _], _ => rfl
theorem b_times_word (T : Top K mg) : Binds K T.fd_times_word ["word", "number"] [] := T.F_times_word.binds (ps := ["word", "number"]) fun _ _ _ _ _ _ us hl => match us, hl with | [_, _], _ => rfl
theorem b_broken_figures (T : Top K mg) : Binds K T.fd_broken_figures ["number", "p", "q"] [] := T.F_broken_figures.binds (ps := ["number", "p", "q"]) fun _ _ _ _ _ _ us hl => match us, hl with | [_, _, _], _ => rfl
theorem b_broken_value (T : Top K mg) : Binds K T.fd_broken_value ["word", "p", "q"] [] := T.F_broken_value.binds (ps := ["word", "p", "q"]) fun _ _ _ _ _ _ us hl => match us, hl with | [_, _, _], _ => rfl
theorem b_broken_carried (T : Top K mg) : Binds K T.fd_broken_carried ["word", "p", "q"] [] := T.F_broken_carried.binds (ps := ["word", "p", "q"]) fun _ _ _ _ _ _ us hl => match us, hl with | [_, _, _], _ => rfl
theorem b_broken_error (T : Top K mg) : Binds K T.fd_broken_error ["value", "p", "q"] [] := T.F_broken_error.binds (ps := ["value", "p", "q"]) fun _ _ _ _ _ _ us hl => match us, hl with | [_, _, _], _ => rfl
theorem b_l_own_bag (T : Top K mg) : Binds K T.fd_l_own_bag ["script"] [] := T.F_l_own_bag.binds (ps := ["script"]) fun _ _ _ _ _ _ us hl => match us, hl with | [_], _ => rfl
theorem b_l_draw (T : Top K mg) : Binds K T.fd_l_draw ["bag", "below"] [] := T.F_l_draw.binds (ps := ["bag", "below"]) fun _ _ _ _ _ _ us hl => match us, hl with | [_, _], _ => rfl
theorem b_l_pick (T : Top K mg) : Binds K T.fd_l_pick ["bag", "some"] [] := T.F_l_pick.binds (ps := ["bag", "some"]) fun _ _ _ _ _ _ us hl => match us, hl with | [_, _], _ => rfl
theorem b_l_great (T : Top K mg) : Binds K T.fd_l_great ["bag", "below"] [] := T.F_l_great.binds (ps := ["bag", "below"]) fun _ _ _ _ _ _ us hl => match us, hl with | [_, _], _ => rfl
theorem b_l_same (T : Top K mg) : Binds K T.fd_l_same ["found", "due"] [] := T.F_l_same.binds (ps := ["found", "due"]) fun _ _ _ _ _ _ us hl => match us, hl with | [_, _], _ => rfl
theorem b_l_pairs (T : Top K mg) : Binds K T.fd_l_pairs [] [] := T.F_l_pairs.binds (ps := []) fun _ _ _ _ _ _ us hl => match us, hl with | [], _ => rfl
theorem b_l_number (T : Top K mg) : Binds K T.fd_l_number ["bag"] [] := T.F_l_number.binds (ps := ["bag"]) fun _ _ _ _ _ _ us hl => match us, hl with | [_], _ => rfl
theorem b_l_figures (T : Top K mg) : Binds K T.fd_l_figures ["number", "p", "q"] [] := T.F_l_figures.binds (ps := ["number", "p", "q"]) fun _ _ _ _ _ _ us hl => match us, hl with | [_, _, _], _ => rfl
theorem b_l_carried (T : Top K mg) : Binds K T.fd_l_carried ["word", "p", "q"] [] := T.F_l_carried.binds (ps := ["word", "p", "q"]) fun _ _ _ _ _ _ us hl => match us, hl with | [_, _, _], _ => rfl
theorem b_l_value (T : Top K mg) : Binds K T.fd_l_value ["word", "p", "q"] [] := T.F_l_value.binds (ps := ["word", "p", "q"]) fun _ _ _ _ _ _ us hl => match us, hl with | [_, _, _], _ => rfl
theorem b_l_judged (T : Top K mg) : Binds K T.fd_l_judged ["value", "p", "q"] [] := T.F_l_judged.binds (ps := ["value", "p", "q"]) fun _ _ _ _ _ _ us hl => match us, hl with | [_, _, _], _ => rfl
theorem b_l_grown (T : Top K mg) : Binds K T.fd_l_grown ["bag", "p", "q", "many"] [] := T.F_l_grown.binds (ps := ["bag", "p", "q", "many"]) fun _ _ _ _ _ _ us hl => match us, hl with | [_, _, _, _], _ => rfl
theorem b_l_are_numbers_right (T : Top K mg) : Binds K T.fd_l_are_numbers_right ["bag", "p", "q", "other"] [] := T.F_l_are_numbers_right.binds (ps := ["bag", "p", "q", "other"]) fun _ _ _ _ _ _ us hl => match us, hl with | [_, _, _, _], _ => rfl
theorem b_l_are_sums_right (T : Top K mg) : Binds K T.fd_l_are_sums_right ["bag", "p", "q"] [] := T.F_l_are_sums_right.binds (ps := ["bag", "p", "q"]) fun _ _ _ _ _ _ us hl => match us, hl with | [_, _, _], _ => rfl
theorem b_l_are_products_right (T : Top K mg) : Binds K T.fd_l_are_products_right ["bag", "p", "q"] [] := T.F_l_are_products_right.binds (ps := ["bag", "p", "q"]) fun _ _ _ _ _ _ us hl => match us, hl with | [_, _, _], _ => rfl
theorem b_l_are_put_down_right (T : Top K mg) : Binds K T.fd_l_are_put_down_right ["bag", "p", "q"] [] := T.F_l_are_put_down_right.binds (ps := ["bag", "p", "q"]) fun _ _ _ _ _ _ us hl => match us, hl with | [_, _, _], _ => rfl
theorem b_l_are_any_right (T : Top K mg) : Binds K T.fd_l_are_any_right ["bag", "p", "q"] [] := T.F_l_are_any_right.binds (ps := ["bag", "p", "q"]) fun _ _ _ _ _ _ us hl => match us, hl with | [_, _, _], _ => rfl
theorem b_l_are_long_judged (T : Top K mg) : Binds K T.fd_l_are_long_judged ["bag", "p", "q"] [] := T.F_l_are_long_judged.binds (ps := ["bag", "p", "q"]) fun _ _ _ _ _ _ us hl => match us, hl with | [_, _, _], _ => rfl
theorem b_l_are_short_judged (T : Top K mg) : Binds K T.fd_l_are_short_judged ["bag", "p", "q"] [] := T.F_l_are_short_judged.binds (ps := ["bag", "p", "q"]) fun _ _ _ _ _ _ us hl => match us, hl with | [_, _, _], _ => rfl
theorem b_law (T : Top K mg) : Binds K T.fd_law ["script"] [] := T.F_law.binds (ps := ["script"]) fun _ _ _ _ _ _ us hl => match us, hl with | [_], _ => rfl
end
def a_is_number (Fr : Addr → Prop) : AS :=
    (aRet (aAndV (aCB (ac2 fIsi) (aCons (aVar 0) (aCons (aC (.r (.ty "int"))) aNil))) (aNotV (aCB (ac2 fIsi) (aCons (aVar 0) (aCons (aC (.r (.ty "bool"))) aNil))))))
def a_trimmed (Fr : Addr → Prop) : AS :=
    (aSeq (aAsg (aCB acLen (aCons (aVar 0) aNil)) (gN 1))
    (aSeq (aWhile (aAnd (aB (aBin arGt (aVar 1) (aC (.d (.int 0))))) (aB (aBin arEq (aBin arIx (aVar 0) (aBin arSub (aVar 1) (aC (.d (.int 1))))) (aC (.d (.int 0)))))) (aAsg (aBin arSub (aVar 1) (aC (.d (.int 1)))) (gN 1)))
    (aRet (aCB acTupOf (aCons (aSl none (aVar 0) aNoP (aPart (aVar 1))) aNil)))))
def a_word_sum (Fr : Addr → Prop) : AS :=
    (aSeq (aAsg (aCB acMax2 (aCons (aCB acLen (aCons (aVar 0) aNil)) (aCons (aCB acLen (aCons (aVar 1) aNil)) aNil))) (gN 2))
    (aSeq (aPar2 3 4 (aCons (aBin (arAdd none) (aVar 0) (aBin (arMulB none) (aTup (aCons (aC (.d (.int 0))) aNil)) (aBin arSub (aVar 2) (aCB acLen (aCons (aVar 0) aNil))))) (aCons (aBin (arAdd none) (aVar 1) (aBin (arMulB none) (aTup (aCons (aC (.d (.int 0))) aNil)) (aBin arSub (aVar 2) (aCB acLen (aCons (aVar 1) aNil))))) aNil)))
    (aRet (aCall c_trimmed xno (aCons (aLc2 none (aZip (aCons (aVar 3) (aCons (aVar 4) aNil))) (gT 2 (gs1 (gN 5) (gs1 (gN 6) gs0))) aYes (aBin (arAdd none) (aVar 5) (aVar 6)) [5, 6]) aNil)))))
def a_times_word (Fr : Addr → Prop) : AS :=
    (aRet (aCall c_trimmed xno (aCons (aLc2 none (aIt (aVar 0)) (gN 2) aYes (aBin arMul (aVar 2) (aVar 1)) [2]) aNil)))
def a_broken_figures (Fr : Addr → Prop) : AS :=
    (aSeq (aAsg (aLst (some Fr) aNil) (gN 3))
    (aSeq (aWhile (aB (aBin arGt (aVar 0) (aC (.d (.int 0))))) (aSeq (aExp (aMl amAppend (aVar 3) (aCons (aBin arMod (aBin arMul (aVar 2) (aVar 0)) (aVar 1)) aNil)))
    (aAsg (aBin arDiv (aBin arMul (aVar 2) (aVar 0)) (aVar 1)) (gN 0))))
    (aRetD (aCB acTupOf (aCons (aVar 3) aNil)))))
def a_broken_value (Fr : Addr → Prop) : AS :=
    (aSeq (aAsg (aTup (aCons (aC (.d (.int 0))) (aCons (aC (.d (.int 1))) aNil))) (gT 2 (gs1 (gN 3) (gs1 (gN 4) gs0))))
    (aSeq (aFor (aIt (aRev2 none (aVar 0))) (gN 5) (aPar2 3 4 (aCons (aBin (arAdd none) (aBin arMul (aVar 5) (aVar 4)) (aBin arMul (aVar 1) (aVar 3))) (aCons (aBin arMul (aVar 2) (aVar 4)) aNil))))
    (aSeq (aAsg (aCB (ac2 (fI2 fun i j => ((Nat.gcd i.natAbs j.natAbs : Nat) : Int))) (aCons (aVar 3) (aCons (aVar 4) aNil))) (gN 6))
    (aRet (aTup (aCons (aBin arDiv (aVar 3) (aVar 6)) (aCons (aBin arDiv (aVar 4) (aVar 6)) aNil)))))))
def a_broken_carried (Fr : Addr → Prop) : AS :=
    (aSeq (aPar3 3 4 5 (aCons (aLst (some Fr) aNil) (aCons (aC (.d (.int 0))) (aCons (aC (.d (.int 0))) aNil))))
    (aSeq (aWhile (aOr (aB (aBin arLt (aVar 5) (aCB acLen (aCons (aVar 0) aNil)))) (aB (aBin arGt (aVar 4) (aC (.d (.int 0)))))) (aSeq (aAsg (aBin (arAdd none) (aVar 4) (aIfE (aB (aBin arLt (aVar 5) (aCB acLen (aCons (aVar 0) aNil)))) (aBin arIx (aVar 0) (aVar 5)) (aC (.d (.int 0))))) (gN 6))
    (aSeq (aExp (aMl amAppend (aVar 3) (aCons (aBin arMod (aVar 6) (aVar 1)) aNil)))
    (aPar2 4 5 (aCons (aBin arMul (aVar 2) (aBin arDiv (aVar 6) (aVar 1))) (aCons (aBin (arAdd none) (aVar 5) (aC (.d (.int 1)))) aNil))))))
    (aFz Fr 3 (aRetD (aCall c_trimmed xno (aCons (aVar 3) aNil))))))
def a_broken_error (Fr : Addr → Prop) : AS :=
    (aSeq (aIf (aOr (aNot (aTru (aCB (ac2 fIsi) (aCons (aVar 0) (aCons (aC (.r (.ty "tuple"))) aNil))))) (aOr (aB (aBin arGt (aCB acLen (aCons (aVar 0) aNil)) (aC (.d (.int 1000))))) (aNot (aTru (aCB (ac1 fAll) (aCons (aLc2 none (aIt (aVar 0)) (gN 5) aYes (aCall c_is_number xno (aCons (aVar 5) aNil)) [5]) aNil)))))) (aRet (aC (.d (.str "form")))) aNx)
    (aSeq (aFor (aEnum2 (aCons (aVar 0) aNil)) (gT 2 (gs1 (gN 3) (gs1 (gN 4) gs0))) (aIf (aNot (aB (aChain arLe arLt (aC (.d (.int 0))) (aVar 4) (aVar 1)))) (aRet (aTup (aCons (aC (.d (.str "figure"))) (aCons (aVar 3) aNil)))) aNx))
    (aSeq (aIf (aAnd (aB (aBin arNeN (aVar 0) (aTup aNil))) (aB (aBin arEq (aBin arIx (aVar 0) (aUn arNeg (aC (.d (.int 1))))) (aC (.d (.int 0)))))) (aRet (aC (.d (.str "nought")))) aNx)
    (aRet (aIfE (aB (aBin arNe (aBin arIx (aCall c_broken_value xno (aCons (aVar 0) (aCons (aVar 1) (aCons (aVar 2) aNil)))) (aC (.d (.int 1)))) (aC (.d (.int 1))))) (aC (.d (.str "whole"))) (aC (.d .none)))))))
def a_l_own_bag (Fr : Addr → Prop) : AS :=
    (aSeq (aAsg (aLc2 none (aIt (aSl none (aVar 0) aNoP (aPart (aC (.d (.int 63)))))) (gN 3) aYes (aCB acAbs (aCons (aVar 3) aNil)) [3]) (gN 1))
    (aSeq (aAsg (aBin (arAdd none) (aC (.d (.int 2468))) (aCB acLen (aCons (aVar 1) aNil))) (gN 2))
    (aSeq (aFor (aIt (aVar 1)) (gN 3) (aAsg (aBin arMod (aBin (arAdd none) (aBin (arAdd none) (aBin arMul (aVar 2) (aC (.d (.int 48271)))) (aBin arMod (aCB acInt (aCons (aVar 3) aNil)) (aC (.d (.int 2147483629))))) (aC (.d (.int 7)))) (aC (.d (.int 2147483647)))) (gN 2)))
    (aRet (aLst (some Fr) (aCons (aLstRev (some Fr) (aCB (acLstOf none) (aCons (aVar 1) aNil))) (aCons (aC (.d (.int 0))) (aCons (aVar 2) aNil))))))))
def a_l_draw (Fr : Addr → Prop) : AS :=
    (aSeq (aWhile (aAnd (aB (aBin arEq (aBin arIx (aVar 0) (aC (.d (.int 1)))) (aC (.d (.int 0))))) (aB (aBin arNe (aBin arIx (aVar 0) (aC (.d (.int 0)))) (aLst none aNil)))) (aSeq (aAsg (aMl0 amPop (aBin arIx (aVar 0) (aC (.d (.int 0))))) (gN 2))
    (aSetIx (aIfE (aB (aBin arGt (aVar 2) (aBin arPow (aC (.d (.int 10))) (aC (.d (.int 9)))))) (aVar 2) (aC (.d (.int 0)))) (aVar 0) (aC (.d (.int 1))))))
    (aSeq (aIf (aB (aBin arGt (aBin arIx (aVar 0) (aC (.d (.int 1)))) (aC (.d (.int 0))))) (aSeq (aAsg (aBin arMod (aCB acInt (aCons (aBin arIx (aVar 0) (aC (.d (.int 1)))) aNil)) (aVar 1)) (gN 3))
    (aSeq (aSetIx (aBin arDiv (aBin arIx (aVar 0) (aC (.d (.int 1)))) (aVar 1)) (aVar 0) (aC (.d (.int 1))))
    (aRet (aVar 3)))) aNx)
    (aSeq (aSetIx (aBin arMod (aBin (arAdd none) (aBin arMul (aBin arIx (aVar 0) (aC (.d (.int 2)))) (aC (.d (.int 48271)))) (aC (.d (.int 11)))) (aC (.d (.int 2147483647)))) (aVar 0) (aC (.d (.int 2))))
    (aRet (aBin arMod (aBin arDiv (aBin arMod (aCB acInt (aCons (aBin arMul (aBin arIx (aVar 0) (aC (.d (.int 2)))) (aBin arIx (aVar 0) (aC (.d (.int 2))))) aNil)) (aC (.d (.int 2147483629)))) (aC (.d (.int 7)))) (aVar 1))))))
def a_l_pick (Fr : Addr → Prop) : AS :=
    (aRet (aBin arIx (aVar 1) (aCall c_l_draw xno (aCons (aVar 0) (aCons (aCB acLen (aCons (aVar 1) aNil)) aNil)))))
def a_l_great (Fr : Addr → Prop) : AS :=
    (aSeq (aAsg (aTup (aCons (aC (.d (.int 0))) (aCons (aC (.d (.int 1))) aNil))) (gT 2 (gs1 (gN 2) (gs1 (gN 3) gs0))))
    (aSeq (aWhile (aB (aBin arLt (aVar 3) (aBin arMul (aVar 1) (aC (.d (.int 1000)))))) (aPar2 2 3 (aCons (aBin (arAdd none) (aBin arMul (aVar 2) (aC (.d (.int 1000000)))) (aCall c_l_draw xno (aCons (aVar 0) (aCons (aC (.d (.int 1000000))) aNil)))) (aCons (aBin arMul (aVar 3) (aC (.d (.int 1000000)))) aNil))))
    (aRet (aBin arMod (aCB acInt (aCons (aVar 2) aNil)) (aVar 1)))))
def a_l_same (Fr : Addr → Prop) : AS :=
    (aSeq (aIf (aB (aBin arIs (aVar 1) (aC (.d .none)))) (aRet (aBin arIs (aVar 0) (aC (.d .none)))) aNx)
    (aSeq (aIf (aTru (aCB (ac2 fIsi) (aCons (aVar 1) (aCons (aC (.r (.ty "tuple"))) aNil)))) (aRet (aAndV (aCB (ac2 fIsi) (aCons (aVar 0) (aCons (aC (.r (.ty "tuple"))) aNil))) (aAndV (aBin arEq (aCB (ac1 fReprB) (aCons (aVar 0) aNil)) (aCB (ac1 fReprB) (aCons (aVar 1) aNil))) (aBin arEq (aVar 0) (aVar 1))))) aNx)
    (aSeq (aIf (aTru (aCB (ac2 fIsi) (aCons (aVar 1) (aCons (aC (.r (.ty "str"))) aNil)))) (aRet (aAndV (aCB (ac2 fIsi) (aCons (aVar 0) (aCons (aC (.r (.ty "str"))) aNil))) (aBin arEq (aCB (ac1 fReprB) (aCons (aVar 0) aNil)) (aCB (ac1 fReprB) (aCons (aVar 1) aNil))))) aNx)
    (aRet (aAndV (aCB (ac2 fIsi) (aCons (aVar 0) (aCons (aC (.r (.ty "int"))) aNil))) (aAndV (aBin arEq (aCB (ac1 fReprB) (aCons (aVar 0) aNil)) (aCB (ac1 fReprB) (aCons (aVar 1) aNil))) (aBin arEq (aVar 0) (aVar 1))))))))
def a_l_pairs (Fr : Addr → Prop) : AS :=
    (aSeq (aAsg (aLst (some Fr) aNil) (gN 0))
    (aSeq (aFor (aRng2 (aCons (aC (.d (.int 3))) (aCons (aC (.d (.int 11))) aNil))) (gN 1) (aExp (aMl amExtend (aVar 0) (aCons (aLc2 none (aRng2 (aCons (aC (.d (.int 2))) (aCons (aVar 1) aNil))) (gN 2) (aTru (aCB (ac1 fAll) (aCons (aLc2 none (aIt (aTup (aCons (aC (.d (.int 2))) (aCons (aC (.d (.int 3))) (aCons (aC (.d (.int 5))) (aCons (aC (.d (.int 7))) aNil)))))) (gN 3) aYes (aOrV (aBin arGt (aBin arMod (aCB acInt (aCons (aVar 1) aNil)) (aVar 3)) (aC (.d (.int 0)))) (aBin arGt (aBin arMod (aCB acInt (aCons (aVar 2) aNil)) (aVar 3)) (aC (.d (.int 0))))) [3]) aNil))) (aTup (aCons (aVar 1) (aCons (aVar 2) aNil))) [2]) aNil))))
    (aRetF Fr (aVar 0))))
def a_l_number (Fr : Addr → Prop) : AS :=
    (aSeq (aPar2 1 2 (aCons (aCall c_l_draw xno (aCons (aVar 0) (aCons (aC (.d (.int 6))) aNil))) (aCons (aC (.d (.int 1))) aNil)))
    (aSeq (aIf (aB (aBin arEq (aVar 1) (aC (.d (.int 0))))) (aRet (aCall c_l_draw xno (aCons (aVar 0) (aCons (aC (.d (.int 40))) aNil)))) aNx)
    (aSeq (aIf (aB (aBin arEq (aVar 1) (aC (.d (.int 1))))) (aRet (aBin arSub (aBin arPow (aC (.d (.int 10))) (aC (.d (.int 30)))) (aCall c_l_draw xno (aCons (aVar 0) (aCons (aC (.d (.int 3))) aNil))))) aNx)
    (aSeq (aFor (aRng1 (aCons (aBin (arAdd none) (aC (.d (.int 1))) (aCall c_l_draw xno (aCons (aVar 0) (aCons (aC (.d (.int 30))) aNil)))) aNil)) (gN 3) (aAsg (aBin arMul (aVar 2) (aC (.d (.int 10)))) (gN 2)))
    (aRet (aBin (arAdd none) (aCall c_l_great xno (aCons (aVar 0) (aCons (aVar 2) aNil))) (aBin arDiv (aVar 1) (aC (.d (.int 5))))))))))
def a_l_figures (Fr : Addr → Prop) : AS :=
    (aSeq (aAsg (aLst (some Fr) aNil) (gN 3))
    (aSeq (aWhile (aB (aBin arGt (aVar 0) (aC (.d (.int 0))))) (aSeq (aExp (aMl amAppend (aVar 3) (aCons (aBin arMod (aCB acInt (aCons (aBin arMul (aVar 2) (aVar 0)) aNil)) (aVar 1)) aNil)))
    (aAsg (aBin arDiv (aBin arMul (aVar 2) (aVar 0)) (aVar 1)) (gN 0))))
    (aRetD (aCB acTupOf (aCons (aVar 3) aNil)))))
def a_l_carried (Fr : Addr → Prop) : AS :=
    (aSeq (aPar2 3 4 (aCons (aLst (some Fr) aNil) (aCons (aC (.d (.int 0))) aNil)))
    (aSeq (aFor (aIt (aVar 0)) (gN 5) (aSeq (aAsg (aBin (arAdd none) (aVar 4) (aVar 5)) (gN 4))
    (aSeq (aExp (aMl amAppend (aVar 3) (aCons (aBin arMod (aCB acInt (aCons (aVar 4) aNil)) (aVar 1)) aNil)))
    (aAsg (aBin arMul (aBin arDiv (aVar 4) (aVar 1)) (aVar 2)) (gN 4)))))
    (aSeq (aWhile (aB (aBin arGt (aVar 4) (aC (.d (.int 0))))) (aSeq (aExp (aMl amAppend (aVar 3) (aCons (aBin arMod (aCB acInt (aCons (aVar 4) aNil)) (aVar 1)) aNil)))
    (aAsg (aBin arMul (aBin arDiv (aVar 4) (aVar 1)) (aVar 2)) (gN 4))))
    (aSeq (aWhile (aAnd (aB (aBin arNe (aVar 3) (aLst none aNil))) (aB (aBin arEq (aBin arIx (aVar 3) (aUn arNeg (aC (.d (.int 1))))) (aC (.d (.int 0)))))) (aExp (aMl0 amPop (aVar 3))))
    (aRetD (aCB acTupOf (aCons (aVar 3) aNil)))))))
def a_l_value (Fr : Addr → Prop) : AS :=
    (aSeq (aAsg (aTup (aCons (aC (.d (.int 0))) (aCons (aC (.d (.int 1))) aNil))) (gT 2 (gs1 (gN 3) (gs1 (gN 4) gs0))))
    (aSeq (aFor (aRevI (aCB (acLstOf none) (aCons (aVar 0) aNil))) (gN 5) (aPar2 3 4 (aCons (aBin (arAdd none) (aBin arMul (aVar 3) (aVar 1)) (aBin arMul (aVar 5) (aVar 4))) (aCons (aBin arMul (aVar 4) (aVar 2)) aNil))))
    (aSeq (aIf (aB (aBin arEq (aVar 3) (aC (.d (.int 0))))) (aRet (aTup (aCons (aC (.d (.int 0))) (aCons (aC (.d (.int 1))) aNil)))) aNx)
    (aSeq (aWhile (aAnd (aB (aBin arGt (aVar 4) (aC (.d (.int 1))))) (aB (aBin arEq (aBin arMod (aCB acInt (aCons (aVar 3) aNil)) (aVar 2)) (aC (.d (.int 0)))))) (aPar2 3 4 (aCons (aBin arDiv (aVar 3) (aVar 2)) (aCons (aBin arDiv (aVar 4) (aVar 2)) aNil))))
    (aSeq (aFor (aIt (aTup (aCons (aC (.d (.int 2))) (aCons (aC (.d (.int 3))) (aCons (aC (.d (.int 5))) (aCons (aC (.d (.int 7))) aNil)))))) (gN 6) (aWhile (aAnd (aB (aBin arEq (aBin arMod (aCB acInt (aCons (aVar 3) aNil)) (aVar 6)) (aC (.d (.int 0))))) (aB (aBin arEq (aBin arMod (aCB acInt (aCons (aVar 4) aNil)) (aVar 6)) (aC (.d (.int 0)))))) (aPar2 3 4 (aCons (aBin arDiv (aVar 3) (aVar 6)) (aCons (aBin arDiv (aVar 4) (aVar 6)) aNil)))))
    (aRet (aTup (aCons (aVar 3) (aCons (aVar 4) aNil)))))))))
def a_l_judged (Fr : Addr → Prop) : AS :=
    (aSeq (aIf (aOr (aNot (aTru (aCB (ac2 fIsi) (aCons (aVar 0) (aCons (aC (.r (.ty "tuple"))) aNil))))) (aB (aBin arGt (aCB acLen (aCons (aVar 0) aNil)) (aC (.d (.int 1000)))))) (aRet (aC (.d (.str "form")))) aNx)
    (aSeq (aIf (aTru (aCB (ac1 fAny) (aCons (aLc2 none (aIt (aVar 0)) (gN 4) aYes (aOrV (aNotV (aCB (ac2 fIsi) (aCons (aVar 4) (aCons (aC (.r (.ty "int"))) aNil)))) (aCB (ac2 fIsi) (aCons (aVar 4) (aCons (aC (.r (.ty "bool"))) aNil)))) [4]) aNil))) (aRet (aC (.d (.str "form")))) aNx)
    (aSeq (aFor (aEnum2 (aCons (aVar 0) aNil)) (gT 2 (gs1 (gN 3) (gs1 (gN 4) gs0))) (aIf (aOr (aB (aBin arLt (aVar 4) (aC (.d (.int 0))))) (aB (aBin arGe (aVar 4) (aVar 1)))) (aRet (aTup (aCons (aC (.d (.str "figure"))) (aCons (aVar 3) aNil)))) aNx))
    (aSeq (aIf (aAnd (aB (aBin arNeN (aVar 0) (aTup aNil))) (aB (aBin arEq (aBin arIx (aVar 0) (aUn arNeg (aC (.d (.int 1))))) (aC (.d (.int 0)))))) (aRet (aC (.d (.str "nought")))) aNx)
    (aSeq (aAsg (aC (.d (.int 0))) (gN 5))
    (aSeq (aFor (aRevI (aCB (acLstOf none) (aCons (aVar 0) aNil))) (gN 6) (aSeq (aIf (aB (aBin arGt (aBin arMod (aCB acInt (aCons (aBin (arAdd none) (aBin arMul (aVar 1) (aVar 5)) (aVar 6)) aNil)) (aVar 2)) (aC (.d (.int 0))))) (aRet (aC (.d (.str "whole")))) aNx)
    (aAsg (aBin arDiv (aBin (arAdd none) (aBin arMul (aVar 1) (aVar 5)) (aVar 6)) (aVar 2)) (gN 5))))
    (aRet (aC (.d .none)))))))))
def a_l_grown (Fr : Addr → Prop) : AS :=
    (aSeq (aPar3 4 5 6 (aCons (aLc2 none (aRng1 (aCons (aC (.d (.int 23))) aNil)) (gN 9) aYes (aCall c_l_draw xno (aCons (aVar 0) (aCons (aC (.d (.int 5))) aNil))) [9]) (aCons (aLst (some Fr) aNil) (aCons (aC (.d (.int 0))) aNil))))
    (aSeq (aFor (aRng1 (aCons (aVar 3) aNil)) (gN 7) (aSeq (aAsg (aBin arMod (aCB acInt (aCons (aBin arSub (aC (.d (.int 0))) (aBin arMul (aVar 1) (aVar 6))) aNil)) (aVar 2)) (gN 8))
    (aSeqE (aIf (aB (aBin arEq (aVar 7) (aC (.d (.int 0))))) (aAsg (aVar 2) (gN 8)) aNx)
    (aSeq (aExp (aMl amAppend (aVar 5) (aCons (aBin (arAdd none) (aVar 8) (aBin arMul (aVar 2) (aBin arMod (aBin arIx (aVar 4) (aBin arMod (aVar 7) (aC (.d (.int 23))))) (aBin (arAdd none) (aBin arDiv (aBin arSub (aBin arSub (aVar 1) (aC (.d (.int 1)))) (aVar 8)) (aVar 2)) (aC (.d (.int 1))))))) aNil)))
    (aAsg (aBin arDiv (aBin (arAdd none) (aBin arMul (aVar 1) (aVar 6)) (aBin arIx (aVar 5) (aUn arNeg (aC (.d (.int 1)))))) (aVar 2)) (gN 6))))))
    (aRetD (aCB acTupOf (aCons (aLstRev none (aCB (acLstOf none) (aCons (aVar 5) aNil))) aNil)))))
def a_l_are_numbers_right (Fr : Addr → Prop) : AS :=
    (aSeq (aAsg (aTup (aCons (aC (.d (.int 0))) (aCons (aTup aNil) aNil))) (gT 2 (gs1 (gN 4) (gs1 (gN 5) gs0))))
    (aSeq (aFor (aIt (aLst none (aCons (aC (.d (.int 0))) (aCons (aBin (arAdd none) (aC (.d (.int 1))) (aCall c_l_draw xno (aCons (aVar 0) (aCons (aC (.d (.int 40))) aNil)))) (aCons (aCall c_l_number xno (aCons (aVar 0) aNil)) (aCons (aCall c_l_number xno (aCons (aVar 0) aNil)) aNil)))))) (gN 4) (aSeq (aAsg (aCall c_l_figures xno (aCons (aVar 4) (aCons (aVar 1) (aCons (aVar 2) aNil)))) (gN 5))
    (aSeq (aIf (aNot (aTru (aCall c_l_same xno (aCons (aCall c_broken_figures xno (aCons (aVar 4) (aCons (aVar 1) (aCons (aVar 2) aNil)))) (aCons (aVar 5) aNil))))) (aRet (aC (.d (.bool false)))) aNx)
    (aSeq (aIf (aOr (aNot (aTru (aCall c_l_same xno (aCons (aCall c_broken_value xno (aCons (aVar 5) (aCons (aVar 1) (aCons (aVar 2) aNil)))) (aCons (aTup (aCons (aVar 4) (aCons (aC (.d (.int 1))) aNil))) aNil))))) (aB (aBin arIsNot (aCall c_broken_error xno (aCons (aVar 5) (aCons (aVar 1) (aCons (aVar 2) aNil)))) (aC (.d .none))))) (aRet (aC (.d (.bool false)))) aNx)
    (aIf (aNot (aTru (aCall c_l_same xno (aCons (aCall c_broken_carried xno (aCons (aVar 5) (aCons (aVar 1) (aCons (aVar 2) aNil)))) (aCons (aVar 5) aNil))))) (aRet (aC (.d (.bool false)))) aNx)))))
    (aSeq (aIf (aNot (aTru (aCall c_l_same xno (aCons (aCallK c_broken_figures xno 0 3 [0, 1, 2] aNil (aCons (aVar 4) (aCons (aBin arIx (aVar 3) (aC (.d (.int 0)))) (aCons (aBin arIx (aVar 3) (aC (.d (.int 1)))) aNil)))) (aCons (aCall c_l_figures xno (aCons (aVar 4) (aCons (aBin arIx (aVar 3) (aC (.d (.int 0)))) (aCons (aBin arIx (aVar 3) (aC (.d (.int 1)))) aNil)))) aNil))))) (aRet (aC (.d (.bool false)))) aNx)
    (aSeq (aIf (aNot (aTru (aCall c_l_same xno (aCons (aCallK c_broken_value xno 0 3 [0, 1, 2] aNil (aCons (aVar 5) (aCons (aVar 1) (aCons (aVar 2) aNil)))) (aCons (aTup (aCons (aVar 4) (aCons (aC (.d (.int 1))) aNil))) aNil))))) (aRet (aC (.d (.bool false)))) aNx)
    (aRet (aCall c_l_same xno (aCons (aCallK c_broken_figures xno 0 3 [0, 1, 2] aNil (aCons (aVar 4) (aCons (aVar 1) (aCons (aVar 2) aNil)))) (aCons (aVar 5) aNil))))))))
def a_l_are_sums_right (Fr : Addr → Prop) : AS :=
    (aSeq (aPar3 3 4 5 (aCons (aCall c_l_number xno (aCons (aVar 0) aNil)) (aCons (aCall c_l_number xno (aCons (aVar 0) aNil)) (aCons (aBin arDiv (aC (.d (.int 1000))) (aBin arSub (aVar 1) (aC (.d (.int 1))))) aNil))))
    (aSeq (aAsg (aTup (aCons (aCB (acLstOf none) (aCons (aCall c_l_figures xno (aCons (aVar 3) (aCons (aVar 1) (aCons (aVar 2) aNil)))) aNil)) (aCons (aCall c_l_figures xno (aCons (aVar 4) (aCons (aVar 1) (aCons (aVar 2) aNil)))) aNil))) (gT 2 (gs1 (gN 6) (gs1 (gN 7) gs0))))
    (aSeq (aAsg (aBin (arAdd none) (aVar 6) (aBin (arMulB none) (aLst none (aCons (aC (.d (.int 0))) aNil)) (aBin arSub (aCB acLen (aCons (aVar 7) aNil)) (aCB acLen (aCons (aVar 6) aNil))))) (gN 6))
    (aSeq (aAsg (aCB acTupOf (aCons (aLc2 none (aEnum2 (aCons (aVar 6) aNil)) (gT 2 (gs1 (gN 12) (gs1 (gN 13) gs0))) aYes (aBin (arAdd none) (aVar 13) (aIfE (aB (aBin arLt (aVar 12) (aCB acLen (aCons (aVar 7) aNil)))) (aBin arIx (aVar 7) (aVar 12)) (aC (.d (.int 0))))) [12, 13]) aNil)) (gN 8))
    (aSeq (aAsg (aCall c_l_figures xno (aCons (aBin (arAdd none) (aVar 3) (aVar 4)) (aCons (aVar 1) (aCons (aVar 2) aNil)))) (gN 9))
    (aSeq (aIf (aOr (aNot (aTru (aCall c_l_same xno (aCons (aCall c_broken_carried xno (aCons (aVar 8) (aCons (aVar 1) (aCons (aVar 2) aNil)))) (aCons (aVar 9) aNil))))) (aNot (aTru (aCall c_l_same xno (aCons (aCall c_broken_value xno (aCons (aVar 8) (aCons (aVar 1) (aCons (aVar 2) aNil)))) (aCons (aTup (aCons (aBin (arAdd none) (aVar 3) (aVar 4)) (aCons (aC (.d (.int 1))) aNil))) aNil)))))) (aRet (aC (.d (.bool false)))) aNx)
    (aSeq (aAsg (aCall c_word_sum xno (aCons (aCall c_broken_figures xno (aCons (aVar 3) (aCons (aVar 1) (aCons (aVar 2) aNil)))) (aCons (aCall c_broken_figures xno (aCons (aVar 4) (aCons (aVar 1) (aCons (aVar 2) aNil)))) aNil))) (gN 10))
    (aSeq (aIf (aOr (aNot (aTru (aCall c_l_same xno (aCons (aVar 10) (aCons (aVar 8) aNil))))) (aNot (aTru (aCall c_l_same xno (aCons (aCallK c_broken_carried xno 0 3 [0, 1, 2] aNil (aCons (aVar 10) (aCons (aVar 1) (aCons (aVar 2) aNil)))) (aCons (aVar 9) aNil)))))) (aRet (aC (.d (.bool false)))) aNx)
    (aSeq (aAsg (aCall c_l_pick xno (aCons (aVar 0) (aCons (aLst none (aCons (aCall c_l_draw xno (aCons (aVar 0) (aCons (aBin (arAdd none) (aVar 5) (aC (.d (.int 1)))) aNil))) (aCons (aVar 5) (aCons (aC (.d (.int 2))) (aCons (aVar 1) (aCons (aVar 2) (aCons (aC (.d (.int 0))) aNil))))))) aNil))) (gN 11))
    (aSeq (aAsg (aCall c_l_figures xno (aCons (aBin arMul (aVar 11) (aVar 4)) (aCons (aVar 1) (aCons (aVar 2) aNil)))) (gN 9))
    (aSeq (aIf (aNot (aTru (aCall c_l_same xno (aCons (aCall c_broken_carried xno (aCons (aCB acTupOf (aCons (aLc2 none (aIt (aVar 7)) (gN 13) aYes (aBin arMul (aVar 11) (aVar 13)) [13]) aNil)) (aCons (aVar 1) (aCons (aVar 2) aNil)))) (aCons (aVar 9) aNil))))) (aRet (aC (.d (.bool false)))) aNx)
    (aSeq (aAsg (aCall c_times_word xno (aCons (aCall c_broken_figures xno (aCons (aVar 4) (aCons (aVar 1) (aCons (aVar 2) aNil)))) (aCons (aVar 11) aNil))) (gN 10))
    (aRet (aAndV (aCall c_l_same xno (aCons (aCall c_broken_carried xno (aCons (aVar 10) (aCons (aVar 1) (aCons (aVar 2) aNil)))) (aCons (aVar 9) aNil))) (aCall c_l_same xno (aCons (aCall c_broken_value xno (aCons (aVar 10) (aCons (aVar 1) (aCons (aVar 2) aNil)))) (aCons (aTup (aCons (aBin arMul (aVar 11) (aVar 4)) (aCons (aC (.d (.int 1))) aNil))) aNil)))))))))))))))))
def a_l_are_products_right (Fr : Addr → Prop) : AS :=
    (aSeq (aPar2 3 4 (aCons (aCall c_l_draw xno (aCons (aVar 0) (aCons (aC (.d (.int 12))) aNil))) (aCons (aCall c_l_great xno (aCons (aVar 0) (aCons (aBin arPow (aC (.d (.int 10))) (aC (.d (.int 8)))) aNil))) aNil)))
    (aSeq (aAsg (aJoin (aIfE (aB (aBin arEq (aCall c_l_draw xno (aCons (aVar 0) (aCons (aC (.d (.int 2))) aNil))) (aC (.d (.int 0))))) (aVar 4) (aBin arMod (aCB acInt (aCons (aVar 4) aNil)) (aC (.d (.int 90)))))) (gN 4))
    (aSeq (aPar2 5 6 (aCons (aCall c_l_figures xno (aCons (aVar 3) (aCons (aVar 1) (aCons (aVar 2) aNil)))) (aCons (aCall c_l_figures xno (aCons (aVar 4) (aCons (aVar 1) (aCons (aVar 2) aNil)))) aNil)))
    (aSeq (aWhile (aB (aBin arGt (aBin arMul (aBin arMul (aBin arSub (aVar 1) (aC (.d (.int 1)))) (aBin arSub (aVar 1) (aC (.d (.int 1))))) (aCB acLen (aCons (aVar 5) aNil))) (aC (.d (.int 1000))))) (aSeq (aAsg (aBin arDiv (aVar 3) (aC (.d (.int 2)))) (gN 3))
    (aAsg (aCall c_l_figures xno (aCons (aVar 3) (aCons (aVar 1) (aCons (aVar 2) aNil)))) (gN 5))))
    (aSeq (aAsg (aBin (arMulB (some Fr)) (aLst none (aCons (aC (.d (.int 0))) aNil)) (aBin (arAdd none) (aCB acLen (aCons (aVar 5) aNil)) (aCB acLen (aCons (aVar 6) aNil)))) (gN 7))
    (aSeq (aFor (aEnum2 (aCons (aVar 5) aNil)) (gT 2 (gs1 (gN 8) (gs1 (gN 9) gs0))) (aFor (aEnum2 (aCons (aVar 6) aNil)) (gT 2 (gs1 (gN 10) (gs1 (gN 11) gs0))) (aSetIx (aBin (arAdd none) (aBin arIx (aVar 7) (aBin (arAdd none) (aVar 8) (aVar 10))) (aBin arMul (aVar 9) (aVar 11))) (aVar 7) (aBin (arAdd none) (aVar 8) (aVar 10)))))
    (aSeq (aPar2 12 13 (aCons (aCB acTupOf (aCons (aVar 7) aNil)) (aCons (aCall c_l_figures xno (aCons (aBin arMul (aBin arMul (aVar 2) (aVar 3)) (aVar 4)) (aCons (aVar 1) (aCons (aVar 2) aNil)))) aNil)))
    (aRetD (aAndV (aCall c_l_same xno (aCons (aCall c_broken_carried xno (aCons (aVar 12) (aCons (aVar 1) (aCons (aVar 2) aNil)))) (aCons (aVar 13) aNil))) (aCall c_l_same xno (aCons (aCall c_broken_value xno (aCons (aVar 12) (aCons (aVar 1) (aCons (aVar 2) aNil)))) (aCons (aTup (aCons (aBin arMul (aBin arMul (aVar 2) (aVar 3)) (aVar 4)) (aCons (aC (.d (.int 1))) aNil))) aNil))))))))))))
def a_l_are_put_down_right (Fr : Addr → Prop) : AS :=
    (aSeq (aAsg (aCall c_l_number xno (aCons (aVar 0) aNil)) (gN 3))
    (aSeq (aPar2 4 5 (aCons (aCall c_l_figures xno (aCons (aVar 3) (aCons (aVar 1) (aCons (aVar 2) aNil)))) (aCons (aLc2 none (aRng1 (aCons (aC (.d (.int 17))) aNil)) (gN 10) aYes (aCall c_l_draw xno (aCons (aVar 0) (aCons (aC (.d (.int 3))) aNil))) [10]) aNil)))
    (aSeq (aAsg (aCB (acLstOf (some Fr)) (aCons (aVar 4) aNil)) (gN 6))
    (aSeq (aFor (aRng3 (aCons (aBin arSub (aCB acLen (aCons (aVar 6) aNil)) (aC (.d (.int 1)))) (aCons (aC (.d (.int 0))) (aCons (aUn arNeg (aC (.d (.int 1)))) aNil)))) (gN 7) (aSeq (aAsg (aCB acMin2 (aCons (aBin arDiv (aBin arIx (aVar 6) (aVar 7)) (aVar 2)) (aCons (aBin arDiv (aBin arSub (aC (.d (.int 1000))) (aBin arIx (aVar 6) (aBin arSub (aVar 7) (aC (.d (.int 1)))))) (aVar 1)) aNil))) (gN 8))
    (aSeq (aAsg (aJoin (aIfE (aB (aBin arGt (aBin arIx (aVar 5) (aBin arMod (aVar 7) (aC (.d (.int 17))))) (aC (.d (.int 0))))) (aVar 8) (aBin arDiv (aVar 8) (aC (.d (.int 2)))))) (gN 8))
    (aSeq (aSetIx (aBin arSub (aBin arIx (aVar 6) (aVar 7)) (aBin arMul (aVar 2) (aVar 8))) (aVar 6) (aVar 7))
    (aSetIx (aBin (arAdd none) (aBin arIx (aVar 6) (aBin arSub (aVar 7) (aC (.d (.int 1))))) (aBin arMul (aVar 1) (aVar 8))) (aVar 6) (aBin arSub (aVar 7) (aC (.d (.int 1)))))))))
    (aSeq (aAsg (aCB acTupOf (aCons (aBin (arAdd none) (aVar 6) (aBin (arMulB none) (aLst none (aCons (aC (.d (.int 0))) aNil)) (aCall c_l_draw xno (aCons (aVar 0) (aCons (aC (.d (.int 3))) aNil))))) aNil)) (gN 9))
    (aRetD (aAndV (aCall c_l_same xno (aCons (aCall c_broken_carried xno (aCons (aVar 9) (aCons (aVar 1) (aCons (aVar 2) aNil)))) (aCons (aVar 4) aNil))) (aCall c_l_same xno (aCons (aCall c_broken_value xno (aCons (aVar 9) (aCons (aVar 1) (aCons (aVar 2) aNil)))) (aCons (aTup (aCons (aVar 3) (aCons (aC (.d (.int 1))) aNil))) aNil))))))))))
def a_l_are_any_right (Fr : Addr → Prop) : AS :=
    (aSeq (aAsg (aCall c_l_pick xno (aCons (aVar 0) (aCons (aLst none (aCons (aCall c_l_draw xno (aCons (aVar 0) (aCons (aC (.d (.int 9))) aNil))) (aCons (aCall c_l_draw xno (aCons (aVar 0) (aCons (aC (.d (.int 66))) aNil))) (aCons (aBin (arAdd none) (aC (.d (.int 60))) (aCall c_l_draw xno (aCons (aVar 0) (aCons (aC (.d (.int 700))) aNil)))) (aCons (aC (.d (.int 999))) (aCons (aC (.d (.int 1000))) aNil)))))) aNil))) (gN 3))
    (aSeq (aAsg (aCall c_l_pick xno (aCons (aVar 0) (aCons (aLst none (aCons (aVar 1) (aCons (aBin arMul (aC (.d (.int 2))) (aVar 1)) (aCons (aC (.d (.int 1001))) (aCons (aC (.d (.int 1001))) aNil))))) aNil))) (gN 4))
    (aSeq (aAsg (aLc2 none (aRng1 (aCons (aBin (arAdd none) (aC (.d (.int 1))) (aCall c_l_draw xno (aCons (aVar 0) (aCons (aC (.d (.int 30))) aNil)))) aNil)) (gN 7) aYes (aCall c_l_draw xno (aCons (aVar 0) (aCons (aVar 4) aNil))) [7]) (gN 5))
    (aSeq (aAsg (aSl (some Fr) (aBin (arMulB none) (aVar 5) (aC (.d (.int 1000)))) aNoP (aPart (aVar 3))) (gN 6))
    (aSeq (aFor (aRng1 (aCons (aIfE (aB (aBin arGt (aVar 3) (aC (.d (.int 0))))) (aC (.d (.int 3))) (aC (.d (.int 0)))) aNil)) (gN 7) (aSetIx (aCall c_l_pick xno (aCons (aVar 0) (aCons (aLst none (aCons (aC (.d (.int 0))) (aCons (aC (.d (.int 1))) (aCons (aVar 1) (aCons (aC (.d (.int 1000))) (aCons (aCall c_l_draw xno (aCons (aVar 0) (aCons (aVar 4) aNil))) aNil)))))) aNil))) (aVar 6) (aCall c_l_draw xno (aCons (aVar 0) (aCons (aVar 3) aNil)))))
    (aSeqE (aIf (aAnd (aB (aBin arGt (aVar 3) (aC (.d (.int 0))))) (aB (aBin arGt (aCall c_l_draw xno (aCons (aVar 0) (aCons (aC (.d (.int 3))) aNil))) (aC (.d (.int 0)))))) (aSetIx (aCall c_l_pick xno (aCons (aVar 0) (aCons (aLst none (aCons (aC (.d (.int 0))) (aCons (aC (.d (.int 1))) (aCons (aBin arSub (aVar 1) (aC (.d (.int 1)))) (aCons (aVar 1) (aCons (aC (.d (.int 1000))) aNil)))))) aNil))) (aVar 6) (aUn arNeg (aC (.d (.int 1))))) aNx)
    (aSeq (aAsg (aCB acTupOf (aCons (aVar 6) aNil)) (gN 8))
    (aSeq (aPar2 9 10 (aCons (aCall c_l_value xno (aCons (aVar 8) (aCons (aVar 1) (aCons (aVar 2) aNil)))) (aCons (aCall c_l_carried xno (aCons (aVar 8) (aCons (aVar 1) (aCons (aVar 2) aNil)))) aNil)))
    (aSeq (aIf (aOr (aNot (aTru (aCall c_l_same xno (aCons (aCall c_broken_value xno (aCons (aVar 8) (aCons (aVar 1) (aCons (aVar 2) aNil)))) (aCons (aVar 9) aNil))))) (aNot (aTru (aCall c_l_same xno (aCons (aCall c_broken_carried xno (aCons (aVar 8) (aCons (aVar 1) (aCons (aVar 2) aNil)))) (aCons (aVar 10) aNil)))))) (aRetD (aC (.d (.bool false)))) aNx)
    (aSeq (aIf (aAnd (aB (aBin arLe (aCB acLen (aCons (aVar 10) aNil)) (aC (.d (.int 1000))))) (aNot (aTru (aCall c_l_same xno (aCons (aCall c_broken_value xno (aCons (aVar 10) (aCons (aVar 1) (aCons (aVar 2) aNil)))) (aCons (aVar 9) aNil)))))) (aRetD (aC (.d (.bool false)))) aNx)
    (aRetD (aAndV (aCall c_l_same xno (aCons (aCallK c_broken_carried xno 0 3 [0, 1, 2] aNil (aCons (aVar 8) (aCons (aVar 1) (aCons (aVar 2) aNil)))) (aCons (aVar 10) aNil))) (aCall c_l_same xno (aCons (aCallK c_broken_value xno 0 3 [0, 1, 2] aNil (aCons (aVar 8) (aCons (aVar 1) (aCons (aVar 2) aNil)))) (aCons (aVar 9) aNil)))))))))))))))
def a_l_are_long_judged (Fr : Addr → Prop) : AS :=
    (aSeq (aAsg (aJoin (aIfE (aB (aBin arEq (aCall c_l_draw xno (aCons (aVar 0) (aCons (aC (.d (.int 3))) aNil))) (aC (.d (.int 0))))) (aC (.d (.int 1000))) (aBin (arAdd none) (aC (.d (.int 1))) (aCall c_l_draw xno (aCons (aVar 0) (aCons (aCall c_l_pick xno (aCons (aVar 0) (aCons (aLst none (aCons (aC (.d (.int 8))) (aCons (aC (.d (.int 70))) (aCons (aC (.d (.int 999))) aNil)))) aNil))) aNil)))))) (gN 3))
    (aSeq (aAsg (aCB (acLstOf none) (aCons (aCall c_l_grown xno (aCons (aVar 0) (aCons (aVar 1) (aCons (aVar 2) (aCons (aVar 3) aNil))))) aNil)) (gN 4))
    (aSeq (aAsg (aCall c_l_pick xno (aCons (aVar 0) (aCons (aLst none (aCons (aC (.d (.int 0))) (aCons (aBin arSub (aVar 3) (aC (.d (.int 1)))) (aCons (aCall c_l_draw xno (aCons (aVar 0) (aCons (aVar 3) aNil))) aNil)))) aNil))) (gN 5))
    (aSeq (aAsg (aBin (arAdd none) (aVar 5) (aCall c_l_draw xno (aCons (aVar 0) (aCons (aBin arSub (aVar 3) (aVar 5)) aNil)))) (gN 6))
    (aSeq (aAsg (aLst (some Fr) (aCons (aTup (aCons (aVar 4) (aCons (aC (.d .none)) aNil))) (aCons (aTup (aCons (aBin (arAdd none) (aVar 4) (aLst none (aCons (aC (.d (.int 0))) aNil))) (aCons (aJoin (aIfE (aB (aBin arLt (aVar 3) (aC (.d (.int 1000))))) (aC (.d (.str "nought"))) (aC (.d (.str "form"))))) aNil))) (aCons (aTup (aCons (aBin (arAdd none) (aBin (arAdd none) (aSl none (aVar 4) aNoP (aPart (aVar 5))) (aLst none (aCons (aVar 1) aNil))) (aSl none (aVar 4) (aPart (aBin (arAdd none) (aVar 5) (aC (.d (.int 1))))) aNoP)) (aCons (aTup (aCons (aC (.d (.str "figure"))) (aCons (aVar 5) aNil))) aNil))) aNil)))) (gN 7))
    (aSeq (aExp (aMl amAppend (aVar 7) (aCons (aTup (aCons (aBin (arAdd none) (aBin (arAdd none) (aSl none (aVar 4) aNoP (aPart (aVar 5))) (aLst none (aCons (aUn arNeg (aC (.d (.int 1)))) aNil))) (aSl none (aVar 4) (aPart (aBin (arAdd none) (aVar 5) (aC (.d (.int 1))))) aNoP)) (aCons (aTup (aCons (aC (.d (.str "figure"))) (aCons (aVar 5) aNil))) aNil))) aNil)))
    (aSeq (aExp (aMl amAppend (aVar 7) (aCons (aTup (aCons (aBin (arAdd none) (aBin (arAdd none) (aSl none (aVar 4) aNoP (aPart (aVar 5))) (aLst none (aCons (aCall c_l_pick xno (aCons (aVar 0) (aCons (aLst none (aCons (aC (.d (.int 1000))) (aCons (aBin arPow (aC (.d (.int 10))) (aC (.d (.int 30)))) (aCons (aUn arNeg (aC (.d (.int 10)))) (aCons (aBin (arAdd none) (aVar 1) (aC (.d (.int 1)))) aNil))))) aNil))) aNil))) (aSl none (aVar 4) (aPart (aBin (arAdd none) (aVar 5) (aC (.d (.int 1))))) aNoP)) (aCons (aTup (aCons (aC (.d (.str "figure"))) (aCons (aVar 5) aNil))) aNil))) aNil)))
    (aSeq (aExp (aMl amAppend (aVar 7) (aCons (aTup (aCons (aBin (arAdd none) (aBin (arAdd none) (aSl none (aVar 4) aNoP (aPart (aVar 5))) (aLst none (aCons (aCall c_l_pick xno (aCons (aVar 0) (aCons (aLst none (aCons (aC (.d (.bool true))) (aCons (aC (.d .none)) (aCons (aC (.d (.str "1"))) (aCons (aTup (aCons (aC (.d (.int 1))) aNil)) (aCons (aC (.d (.bool false))) aNil)))))) aNil))) aNil))) (aSl none (aVar 4) (aPart (aBin (arAdd none) (aVar 5) (aC (.d (.int 1))))) aNoP)) (aCons (aC (.d (.str "form"))) aNil))) aNil)))
    (aSeq (aAsg (aJoin (aIfE (aAnd (aB (aBin arGt (aBin arIx (aVar 4) (aVar 5)) (aC (.d (.int 0))))) (aOr (aB (aBin arEq (aBin arIx (aVar 4) (aVar 5)) (aBin arSub (aVar 1) (aC (.d (.int 1)))))) (aB (aBin arEq (aCall c_l_draw xno (aCons (aVar 0) (aCons (aC (.d (.int 2))) aNil))) (aC (.d (.int 0))))))) (aBin arSub (aBin arIx (aVar 4) (aVar 5)) (aC (.d (.int 1)))) (aBin (arAdd none) (aBin arIx (aVar 4) (aVar 5)) (aC (.d (.int 1)))))) (gN 8))
    (aSeqE (aIf (aOr (aB (aBin arLt (aVar 5) (aBin arSub (aVar 3) (aC (.d (.int 1)))))) (aB (aBin arGt (aVar 8) (aC (.d (.int 0)))))) (aExp (aMl amAppend (aVar 7) (aCons (aTup (aCons (aBin (arAdd none) (aBin (arAdd none) (aSl none (aVar 4) aNoP (aPart (aVar 5))) (aLst none (aCons (aVar 8) aNil))) (aSl none (aVar 4) (aPart (aBin (arAdd none) (aVar 5) (aC (.d (.int 1))))) aNoP)) (aCons (aC (.d (.str "whole"))) aNil))) aNil))) aNx)
    (aSeqE (aIf (aB (aBin arLt (aVar 3) (aC (.d (.int 999))))) (aSeq (aExp (aMl amAppend (aVar 7) (aCons (aTup (aCons (aBin (arAdd none) (aVar 4) (aLst none (aCons (aC (.d (.int 1))) (aCons (aC (.d (.int 0))) aNil)))) (aCons (aC (.d (.str "nought"))) aNil))) aNil)))
    (aExp (aMl amAppend (aVar 7) (aCons (aTup (aCons (aBin (arAdd none) (aBin (arAdd none) (aBin (arAdd none) (aSl none (aVar 4) aNoP (aPart (aVar 5))) (aLst none (aCons (aVar 1) aNil))) (aSl none (aVar 4) (aPart (aBin (arAdd none) (aVar 5) (aC (.d (.int 1))))) aNoP)) (aLst none (aCons (aC (.d (.int 0))) aNil))) (aCons (aTup (aCons (aC (.d (.str "figure"))) (aCons (aVar 5) aNil))) aNil))) aNil)))) aNx)
    (aSeq (aAsg (aBin (arAdd (some Fr)) (aBin (arAdd none) (aSl none (aVar 4) aNoP (aPart (aVar 6))) (aLst none (aCons (aBin (arAdd none) (aVar 1) (aC (.d (.int 7)))) aNil))) (aSl none (aVar 4) (aPart (aBin (arAdd none) (aVar 6) (aC (.d (.int 1))))) aNoP)) (gN 9))
    (aSeq (aSetIx (aVar 1) (aVar 9) (aVar 5))
    (aSeq (aFz Fr 9 (aExp (aMl amAppend (aVar 7) (aCons (aTup (aCons (aVar 9) (aCons (aTup (aCons (aC (.d (.str "figure"))) (aCons (aVar 5) aNil))) aNil))) aNil))))
    (aSeq (aAsg (aCB (acLstOf (some Fr)) (aCons (aVar 9) aNil)) (gN 10))
    (aSeq (aSetIx (aC (.d (.bool true))) (aVar 10) (aVar 6))
    (aSeq (aFz Fr 10 (aExp (aMl amAppend (aVar 7) (aCons (aTup (aCons (aVar 10) (aCons (aC (.d (.str "form"))) aNil))) aNil))))
    (aSeq (aFor (aIt (aVar 7)) (gT 2 (gs1 (gN 11) (gs1 (gN 12) gs0))) (aIf (aNot (aTru (aCall c_l_same xno (aCons (aCall c_broken_error xno (aCons (aCB acTupOf (aCons (aVar 11) aNil)) (aCons (aVar 1) (aCons (aVar 2) aNil)))) (aCons (aVar 12) aNil))))) (aRetD (aC (.d (.bool false)))) aNx))
    (aRetD (aAndV (aCall c_l_same xno (aCons (aCall c_broken_error xno (aCons (aCB acTupOf (aCons (aVar 4) aNil)) (aCons (aVar 1) (aCons (aVar 2) aNil)))) (aCons (aC (.d .none)) aNil))) (aCall c_l_same xno (aCons (aCall c_broken_error xno (aCons (aVar 4) (aCons (aVar 1) (aCons (aVar 2) aNil)))) (aCons (aC (.d (.str "form"))) aNil)))))))))))))))))))))))
def a_l_are_short_judged (Fr : Addr → Prop) : AS :=
    (aSeqE (aIf (aB (aBin arEq (aCall c_l_draw xno (aCons (aVar 0) (aCons (aC (.d (.int 3))) aNil))) (aC (.d (.int 0))))) (aSeq (aAsg (aCall c_l_grown xno (aCons (aVar 0) (aCons (aVar 1) (aCons (aVar 2) (aCons (aC (.d (.int 1001))) aNil))))) (gN 3))
    (aIf (aOr (aNot (aTru (aCall c_l_same xno (aCons (aCall c_broken_error xno (aCons (aVar 3) (aCons (aVar 1) (aCons (aVar 2) aNil)))) (aCons (aC (.d (.str "form"))) aNil))))) (aNot (aTru (aCall c_l_same xno (aCons (aCall c_broken_error xno (aCons (aSl none (aVar 3) (aPart (aC (.d (.int 1)))) aNoP) (aCons (aVar 1) (aCons (aVar 2) aNil)))) (aCons (aC (.d .none)) aNil)))))) (aRetD (aC (.d (.bool false)))) aNx)) aNx)
    (aSeq (aAsg (aLst (some Fr) (aCons (aTup aNil) (aCons (aTup (aCons (aVar 2) aNil)) (aCons (aTup (aCons (aC (.d (.int 0))) aNil)) (aCons (aTup (aCons (aC (.d (.int 1))) aNil)) (aCons (aTup (aCons (aBin arSub (aVar 1) (aC (.d (.int 1)))) (aCons (aVar 2) aNil))) (aCons (aTup (aCons (aC (.d (.int 0))) (aCons (aC (.d (.int 0))) aNil))) aNil))))))) (gN 4))
    (aSeq (aFor (aRng1 (aCons (aC (.d (.int 8))) aNil)) (gN 5) (aSeq (aAsg (aCall c_l_pick xno (aCons (aVar 0) (aCons (aLst none (aCons (aTup (aCons (aC (.d (.int 0))) (aCons (aVar 1) aNil))) (aCons (aTup (aCons (aC (.d (.int 0))) (aCons (aVar 1) aNil))) (aCons (aTup (aCons (aUn arNeg (aC (.d (.int 1)))) (aCons (aBin (arAdd none) (aVar 1) (aC (.d (.int 1)))) aNil))) aNil)))) aNil))) (gT 2 (gs1 (gN 6) (gs1 (gN 7) gs0))))
    (aExp (aMl amAppend (aVar 4) (aCons (aCB acTupOf (aCons (aLc2 none (aRng1 (aCons (aBin (arAdd none) (aC (.d (.int 1))) (aCall c_l_draw xno (aCons (aVar 0) (aCons (aC (.d (.int 5))) aNil)))) aNil)) (gN 10) aYes (aBin (arAdd none) (aVar 6) (aCall c_l_draw xno (aCons (aVar 0) (aCons (aBin arSub (aVar 7) (aVar 6)) aNil)))) [10]) aNil)) aNil)))))
    (aSeq (aExp (aMl amExtend (aVar 4) (aCons (aLst none (aCons (aC (.d .none)) (aCons (aC (.d (.bool true))) (aCons (aC (.d (.int 0))) (aCons (aVar 2) (aCons (aC (.d (.str "form"))) (aCons (aCB (ac1 fStrI) (aCons (aVar 2) aNil)) (aCons (aLst none aNil) (aCons (aLst none (aCons (aVar 2) aNil)) (aCons aDNewD (aCons (aTup (aCons (aTup (aCons (aVar 2) aNil)) aNil)) (aCons (aTup (aCons (aC (.d .none)) aNil)) (aCons (aTup (aCons (aC (.d (.bool true))) aNil)) (aCons (aTup (aCons (aVar 2) (aCons (aC (.d (.bool true))) aNil))) (aCons (aTup (aCons (aC (.d (.int 1))) (aCons (aC (.d (.bool false))) aNil))) aNil))))))))))))))) aNil)))
    (aSeq (aAsg (aCB (ac1 fReprB) (aCons (aVar 4) aNil)) (gN 8))
    (aSeq (aFor (aIt (aVar 4)) (gN 9) (aIf (aNot (aTru (aCall c_l_same xno (aCons (aCallK c_broken_error xno 0 3 [0, 1, 2] aNil (aCons (aVar 9) (aCons (aVar 1) (aCons (aVar 2) aNil)))) (aCons (aCall c_l_judged xno (aCons (aVar 9) (aCons (aVar 1) (aCons (aVar 2) aNil)))) aNil))))) (aRetD (aC (.d (.bool false)))) aNx))
    (aRetD (aBin arEq (aCB (ac1 fReprB) (aCons (aVar 4) aNil)) (aVar 8)))))))))
def a_law (Fr : Addr → Prop) : AS :=
    (aSeq (aAsg (aCall c_l_own_bag xno (aCons (aVar 0) aNil)) (gN 1))
    (aSeq (aAsg (aCall c_l_pairs xno aNil) (gN 2))
    (aSeq (aPar2 3 4 (aCons (aCall c_l_pick xno (aCons (aVar 1) (aCons (aVar 2) aNil))) (aCons (aCall c_l_pick xno (aCons (aVar 1) (aCons (aVar 2) aNil))) aNil)))
    (aSeq (aAsg (aVar 3) (gT 2 (gs1 (gN 5) (gs1 (gN 6) gs0))))
    (aSeq (aIf (aOr (aNot (aTru (aCall c_l_are_numbers_right xno (aCons (aVar 1) (aCons (aVar 5) (aCons (aVar 6) (aCons (aVar 4) aNil))))))) (aNot (aTru (aCall c_l_are_sums_right xno (aCons (aVar 1) (aCons (aVar 5) (aCons (aVar 6) aNil))))))) (aRet (aC (.d (.bool false)))) aNx)
    (aSeq (aIf (aOr (aNot (aTru (aCall c_l_are_put_down_right xno (aCons (aVar 1) (aCons (aVar 5) (aCons (aVar 6) aNil)))))) (aNot (aTru (aCall c_l_are_short_judged xno (aCons (aVar 1) (aCons (aVar 5) (aCons (aVar 6) aNil))))))) (aRet (aC (.d (.bool false)))) aNx)
    (aSeq (aAsg (aVar 4) (gT 2 (gs1 (gN 5) (gs1 (gN 6) gs0))))
    (aSeq (aIf (aOr (aNot (aTru (aCall c_l_are_numbers_right xno (aCons (aVar 1) (aCons (aVar 5) (aCons (aVar 6) (aCons (aVar 3) aNil))))))) (aNot (aTru (aCall c_l_are_products_right xno (aCons (aVar 1) (aCons (aVar 5) (aCons (aVar 6) aNil))))))) (aRet (aC (.d (.bool false)))) aNx)
    (aSeq (aAsg (aCall c_l_pick xno (aCons (aVar 1) (aCons (aLst none (aCons (aVar 3) (aCons (aVar 4) aNil))) aNil))) (gT 2 (gs1 (gN 5) (gs1 (gN 6) gs0))))
    (aRet (aAndV (aCall c_l_are_any_right xno (aCons (aVar 1) (aCons (aVar 5) (aCons (aVar 6) aNil)))) (aCall c_l_are_long_judged xno (aCons (aVar 1) (aCons (aVar 5) (aCons (aVar 6) aNil)))))))))))))))
theorem w_l_pick (Fr : Addr → Prop) (svs : List SV) (Ω : Om) (Φ : PhiE) (Ξ : XA) (h : c_l_pick svs Ω Φ Ξ) :
    a_l_pick Fr { nx := fun _ Ω => Φ (.d .none) Ω, rt := Φ } (startR N_l_pick svs) Ω := by
  obtain ⟨hB, ne, ln, k⟩ := h
  rename_i x ds L R
  conv => whnf
  refine .mk hB ?_ ?_ fun r Ω' r0 r1 hB' => ?_
  · have := List.length_pos_iff.mpr ne
    omega
  · have := log2_lt (n := ((ds.length : Nat) : Int).natAbs) (k := 60) (by simpa using ln) (by decide)
    omega
  · have lt : r.toNat < ds.length := by omega
    conv => whnf
    exact ⟨_, atI_i r0 (List.getElem?_eq_getElem lt), k _ (List.getElem_mem lt) _ hB'⟩
theorem w_l_draw (Fr : Addr → Prop) (svs : List SV) (Ω : Om) (Φ : PhiE) (Ξ : XA) (h : c_l_draw svs Ω Φ Ξ) :
    a_l_draw Fr { nx := fun _ Ω => Φ (.d .none) Ω, rt := Φ } (startR N_l_draw svs) Ω := by
  obtain ⟨hB, b0, b1, k⟩ := h
  obtain ⟨hx, ok⟩ := hB
  rename_i x below L R b c n m is
  subst hx
  conv => whnf
  refine ⟨fun d ρ Ω' => ∃ (n : Int) (is : List Int) (ρ2 : Option SV), ρ = [some (.r (.ref b)), some (I below), ρ2, none] ∧ Ω' = L ++ (b, .lx [.r (.ref c), I n, I m]) :: (c, .lst (isD is)) :: R ∧ d = is.length ∧ BagOk n m is, ⟨_, _, _, _, rfl, rfl, rfl, ok⟩, ?_⟩
  clear ok n is
  rintro d ρ _ ⟨n, is, ρ2, rfl, rfl, rfl, ok⟩
  have A1 := At.app (At.here (a := b) (c := .lx [.r (.ref c), I n, I m]) (Ω := (c, .lst (isD is)) :: R)) L
  have A2 := At.app (At.there (p := (b, .lx [.r (.ref c), I n, I m])) (At.here (a := c) (c := .lst (isD is)) (Ω := R))) L
  have fin : ∀ ρ2, (aSeq (aIf (aB (aBin arGt (aBin arIx (aVar 0) (aC (.d (.int 1)))) (aC (.d (.int 0))))) (aSeq (aAsg (aBin arMod (aCB acInt (aCons (aBin arIx (aVar 0) (aC (.d (.int 1)))) aNil)) (aVar 1)) (gN 3)) (aSeq (aSetIx (aBin arDiv (aBin arIx (aVar 0) (aC (.d (.int 1)))) (aVar 1)) (aVar 0) (aC (.d (.int 1)))) (aRet (aVar 3)))) aNx) (aSeq (aSetIx (aBin arMod (aBin (arAdd none) (aBin arMul (aBin arIx (aVar 0) (aC (.d (.int 2)))) (aC (.d (.int 48271)))) (aC (.d (.int 11)))) (aC (.d (.int 2147483647)))) (aVar 0) (aC (.d (.int 2)))) (aRet (aBin arMod (aBin arDiv (aBin arMod (aCB acInt (aCons (aBin arMul (aBin arIx (aVar 0) (aC (.d (.int 2)))) (aBin arIx (aVar 0) (aC (.d (.int 2))))) aNil)) (aC (.d (.int 2147483629)))) (aC (.d (.int 7)))) (aVar 1))))) { nx := fun _ Ω => Φ (.d .none) Ω, rt := Φ } [some (.r (.ref b)), some (I below), ρ2, none] (L ++ (b, .lx [.r (.ref c), I n, I m]) :: (c, .lst (isD is)) :: R) := by
    intro ρ2
    conv => whnf
    refine ⟨_, _, A1, ?_⟩
    conv => whnf
    refine ⟨_, rfl, ?_⟩
    conv => whnf
    refine br_d (fun gt => ?_) fun le => ?_
    · conv => whnf
      refine ⟨_, _, A1, ?_⟩
      conv => whnf
      refine ⟨_, rfl, ?_⟩
      conv => whnf
      refine ⟨b0, ?_⟩
      conv => whnf
      refine ⟨_, _, A1, ?_⟩
      conv => whnf
      refine ⟨_, rfl, ?_⟩
      conv => whnf
      refine ⟨⟨b0, b1⟩, ?_⟩
      conv => whnf
      refine ⟨_, _, A1, ?_⟩
      conv => whnf
      refine ⟨1, rfl, ?_⟩
      conv => whnf
      exact k _ _ (Int.emod_nonneg _ (by omega)) (Int.emod_lt_of_pos _ b0) (.mk rfl ⟨Int.ediv_nonneg ok.n0 (by omega), ok.m0, ok.m1, ok.i0⟩)
    · have m0 := ok.m0
      have m1 := ok.m1
      conv => whnf
      refine ⟨_, _, A1, ?_⟩
      conv => whnf
      refine ⟨_, rfl, ?_⟩
      conv => whnf
      refine ⟨cmul (by omega) (by omega) (by omega) (by omega), ?_⟩
      conv => whnf
      refine ⟨(by decide : (0 : Int) < 2147483647), ?_⟩
      conv => whnf
      refine ⟨_, _, A1, ?_⟩
      conv => whnf
      refine ⟨2, rfl, ?_⟩
      have z0 : 0 ≤ (m * 48271 + 11) % 2147483647 := by omega
      have z1 : (m * 48271 + 11) % 2147483647 < 2147483647 := by omega
      have A3 := At.app (At.here (a := b) (c := .lx [.r (.ref c), I n, I ((m * 48271 + 11) % 2147483647)]) (Ω := (c, .lst (isD is)) :: R)) L
      conv => whnf
      refine ⟨_, _, A3, ?_⟩
      conv => whnf
      refine ⟨_, rfl, ?_⟩
      conv => whnf
      refine ⟨_, _, A3, ?_⟩
      conv => whnf
      refine ⟨_, rfl, ?_⟩
      conv => whnf
      refine ⟨cmul (by omega) (by omega) (by omega) (by omega), ?_⟩
      conv => whnf
      refine ⟨(by decide : (0 : Int) < 2147483629), ?_⟩
      conv => whnf
      refine ⟨cdiv (by decide) (by decide), ?_⟩
      conv => whnf
      refine ⟨b0, ?_⟩
      conv => whnf
      exact k _ _ (Int.emod_nonneg _ (by omega)) (Int.emod_lt_of_pos _ b0) (.mk rfl ⟨ok.n0, z0, z1, ok.i0⟩)
  conv => whnf
  refine ⟨_, _, A1, ?_⟩
  conv => whnf
  refine ⟨_, rfl, ?_⟩
  conv => whnf
  refine br_d (fun e0 => ?_) fun ne => ?_
  · conv => whnf
    refine ⟨_, _, A1, ?_⟩
    conv => whnf
    refine ⟨_, rfl, ?_⟩
    conv => whnf
    refine ⟨by decide, ?_⟩
    conv => whnf
    refine ⟨_, _, A2, ?_⟩
    conv => whnf
    refine ⟨(shaped_isD is).2, shaped_nil, ?_⟩
    conv => whnf
    rw [eqv_nil]
    refine br_n (br_d (fun e => ?_) fun ne => ?_)
    · exact fin ρ2
    · conv => whnf
      refine ⟨_, _, A1, ?_⟩
      conv => whnf
      refine ⟨_, rfl, ?_⟩
      conv => whnf
      refine ⟨⟨_, _, A2, trivial⟩, ?_⟩
      obtain ⟨js, i, rfl⟩ : ∃ js i, is = js ++ [i] := ⟨is.dropLast, is.getLast ne, (List.dropLast_concat_getLast ne).symm⟩
      conv => whnf
      refine ⟨_, _, A2, .int i, by simp [isD], ?_⟩
      have e9 : (isD (js ++ [i])).dropLast = isD js := by simp [isD]
      have i0 := ok.i0 i (by simp)
      conv => whnf
      rw [e9]
      refine ⟨⟨by decide, by decide, by decide⟩, ?_⟩
      conv => whnf
      have A4 := At.app (At.here (a := b) (c := .lx [.r (.ref c), I n, I m]) (Ω := (c, .lst (isD js)) :: R)) L
      refine br_d (fun gt => ?_) fun le => ?_
      · conv => whnf
        refine ⟨_, _, A4, ?_⟩
        conv => whnf
        refine ⟨1, rfl, ?_⟩
        conv => whnf
        exact ⟨_, by simp, _, _, _, rfl, rfl, rfl, i0, ok.m0, ok.m1, fun j hj => ok.i0 j (by simp [hj])⟩
      · conv => whnf
        refine ⟨_, _, A4, ?_⟩
        conv => whnf
        refine ⟨1, rfl, ?_⟩
        conv => whnf
        exact ⟨_, by simp, _, _, _, rfl, rfl, rfl, Int.le_refl 0, ok.m0, ok.m1, fun j hj => ok.i0 j (by simp [hj])⟩
  · conv => whnf
    refine br_F ?_
    exact fin ρ2
theorem w_l_own_bag (Fr : Addr → Prop) (svs : List SV) (Ω : Om) (Φ : PhiE) (Ξ : XA) (h : c_l_own_bag svs Ω Φ Ξ) :
    a_l_own_bag Fr { nx := fun _ Ω => Φ (.d .none) Ω, rt := Φ } (startR N_l_own_bag svs) Ω := by
  obtain ⟨ok, k⟩ := h
  rename_i ns
  have cl := Nat.le_trans (cutD_len ns none (some 63)) ok.1
  conv => whnf
  refine ⟨?_, ?_⟩
  · rw [List.length_map, cutD_isD, isD, List.length_map]
    omega
  refine ⟨fun i acc Ω' => ∃ is : List Int, acc = (isD is).map SV.d ∧ Ω' = [] ∧ is.length = i ∧ ∀ z ∈ is, 0 ≤ z, ⟨[], rfl, rfl, rfl, by simp⟩, fun i acc Ω' ⟨is, h1, h2, h3, h4⟩ => ⟨trivial, by rw [h1, List.length_map, isD, List.length_map]; omega⟩, ?_, ?_⟩
  · rintro i x acc _ e ⟨is, rfl, rfl, rfl, nn⟩
    rw [cutD_isD] at e
    obtain ⟨z, -, rfl⟩ := get_isD e
    conv => whnf
    refine br_T ?_
    conv => whnf
    refine ⟨is ++ [if z < 0 then -z else z], ?_, rfl, by simp, ?_⟩
    · rw [← app_isD, List.map_append]
      rfl
    · intro y hy
      rcases List.mem_append.mp hy with hy | hy
      · exact nn y hy
      · obtain rfl := List.mem_singleton.mp hy
        split <;> omega
  rintro acc _ ⟨is, rfl, rfl, ln, nn⟩
  rw [List.length_map, cutD_isD, isD, List.length_map] at ln
  refine newX_d ?_
  conv => whnf
  refine ⟨fun j ρ Ω' => ∃ (mx : Int) (ρ3 : Option SV), ρ = [some (.l (isD ns)), some (.d (.list (isD is))), some (I mx), ρ3] ∧ Ω' = [] ∧ 0 ≤ mx ∧ mx < 2147483647, ⟨_, _, rfl, rfl, ?_, ?_⟩, fun _ _ _ _ => trivial, ?_, ?_⟩
  · omega
  · rw [isD, List.length_map]; omega
  · rintro j x ρ _ e ⟨mx, ρ3, rfl, rfl, m0, m1⟩
    obtain ⟨z, -, rfl⟩ := get_isD e
    conv => whnf
    refine ⟨cmul (by omega) (by omega) (by omega) (by omega), ?_⟩
    conv => whnf
    refine ⟨(by decide : (0 : Int) < 2147483629), ?_⟩
    conv => whnf
    refine ⟨(by decide : (0 : Int) < 2147483647), ?_⟩
    conv => whnf
    exact ⟨_, _, rfl, rfl, Int.emod_nonneg _ (by omega), Int.emod_lt_of_pos _ (by omega)⟩
  · rintro ρ _ ⟨mx, ρ3, rfl, rfl, m0, m1⟩
    conv => whnf
    refine ⟨trivial, ?_⟩
    intro c fc
    conv => whnf
    refine ⟨(by decide : 3 ≤ sizeLine), ?_⟩
    intro b fb
    conv => whnf
    have e : (isD is).reverse = isD is.reverse := by rw [isD, isD, List.map_reverse]
    refine k _ _ ?_
    show Bag (.r (.ref b)) [] [] ([(b, .lx [.r (.ref c), I 0, I mx]), (c, .lst (isD is).reverse)])
    rw [e]
    exact .mk (L := []) rfl ⟨Int.le_refl 0, m0, m1, fun i hi => nn i (List.mem_reverse.mp hi)⟩
section
local macro_rules | `(tactic| walk_at "z1") => `(tactic| ((try dsimp only); first | done | exact True.intro | exact Nat.le_of_ble_eq_true rfl | (with_reducible assumption) | rfl | omega | (exact ⟨by omega, by omega⟩) | (exact cmul (by omega) (by omega) (by omega) (by omega)) | (exact cdiv (by omega) (by omega)) | (exact Or.inl ⟨by omega, by omega⟩) | (exact Or.inr ⟨by omega, by omega⟩) | decide | assumption | (simp only [List.length_map, List.length_range, List.length_append, List.length_cons, List.length_nil, List.length_replicate, len_repD]; omega)))
local macro_rules | `(tactic| walk_at "zs") => `(tactic| ((conv => whnf); first | with_reducible refine br_T ?_ | with_reducible refine br_F ?_ | with_reducible refine br_d1 rfl ?_ | with_reducible refine br_n ?_ | ((with_reducible refine br_d1 ?_ ?_); (focus omega)) | ((with_reducible refine br_d0 ?_ ?_); (focus omega)) | ((fail_if_success (fail_if_success (with_reducible refine br.mk ?_ ?_))); (fail_if_success with_reducible refine br_d ?_ ?_); first | refine br_T ?_ | refine br_F ?_) | ((fail_if_success (fail_if_success (with_reducible refine And.intro ?_ ?_))); first | refine And.intro (by walk_at "z1") ?_ | refine ⟨⟨_, _, .here, trivial⟩, ?_⟩) | ((fail_if_success (fail_if_success (with_reducible refine Exists.intro ?_ ?_))); first | refine ⟨_, _, .here, ?_⟩ | refine ⟨_, true, rfl, rfl, ?_⟩ | refine ⟨_, false, rfl, rfl, ?_⟩ | refine ⟨_, (by rfl : atI _ _ = some _), ?_⟩ | refine ⟨_, (by assumption : atI _ _ = some _), ?_⟩)))
theorem w_is_number (Fr : Addr → Prop) (svs : List SV) (Ω : Om) (Φ : PhiE) (Ξ : XA) (h : c_is_number svs Ω Φ Ξ) :
    a_is_number Fr { nx := fun _ Ω => Φ (.d .none) Ω, rt := Φ } (startR N_is_number svs) Ω := by
  obtain ⟨k⟩ := h
  rename_i d
  cases d <;> (((repeat walk_at "zs"); (try conv => whnf)); exact k)
theorem w_trimmed (Fr : Addr → Prop) (svs : List SV) (Ω : Om) (Φ : PhiE) (Ξ : XA) (h : c_trimmed svs Ω Φ Ξ) :
    a_trimmed Fr { nx := fun _ Ω => Φ (.d .none) Ω, rt := Φ } (startR N_trimmed svs) Ω := by
  obtain ⟨ln, k⟩ := h
  rename_i is
  have li := len_isD is
  ((repeat walk_at "zs"); (try conv => whnf))
  refine ⟨fun m ρ Ω' => ∃ (s : Nat), ρ = [some (.d (.list (isD is))), some (I (s : Nat))] ∧ Ω' = Ω ∧ m = s ∧ s ≤ is.length ∧ trm (is.take s) = trm is, ⟨_, is.length, by rw [li]; rfl, rfl, rfl, Nat.le_refl _, by rw [List.take_length]⟩, ?_⟩
  rintro m ρ Ω ⟨s, rfl, rfl, rfl, le, e⟩
  have fin : trm (is.take m) = is.take m → Z.cutD (isD is) none (some (m : Int)) = isD (trm is) := fun q => by rw [cut_to_isD (by omega), Int.toNat_natCast, ← q, e]
  ((repeat walk_at "zs"); (try conv => whnf))
  refine br_d (fun z => ?_) fun z => ?_
  · have lt : m - 1 < is.length := by omega
    have ea : atI (isD is) ((m : Int) - 1) = some (.int is[m - 1]) := at_isD (by omega) (by rw [show ((m : Int) - 1).toNat = m - 1 by omega]; exact List.getElem?_eq_getElem lt)
    have et : is.take m = is.take (m - 1) ++ [is[m - 1]] := by
      conv => lhs; rw [show m = m - 1 + 1 by omega]
      rw [List.take_add_one, List.getElem?_eq_getElem lt]; rfl
    ((repeat walk_at "zs"); (try conv => whnf))
    refine br_d (fun z0 => ?_) fun z0 => ?_
    · ((repeat walk_at "zs"); (try conv => whnf))
      refine ⟨_, ?_, m - 1, by rw [show ((m - 1 : Nat) : Int) = (m : Int) - 1 by omega]; rfl, rfl, rfl, by omega, ?_⟩
      · omega
      · rw [← e, et, z0, trm_zero]
    · ((repeat walk_at "zs"); (try conv => whnf))
      rw [fin (by rw [et]; exact trm_ne z0 _)]
      exact k
  · ((repeat walk_at "zs"); (try conv => whnf))
    have : m = 0 := by omega
    subst this
    rw [fin rfl]
    exact k
theorem w_l_same (Fr : Addr → Prop) (svs : List SV) (Ω : Om) (Φ : PhiE) (Ξ : XA) (h : c_l_same svs Ω Φ Ξ) :
    a_l_same Fr { nx := fun _ Ω => Φ (.d .none) Ω, rt := Φ } (startR N_l_same svs) Ω := by
  obtain ⟨s, k⟩ := h
  rename_i d
  obtain ⟨kd, sh, dp, ln, fm⟩ := s
  rcases kd with rfl | ⟨i, rfl⟩ | ⟨t, rfl⟩ | ⟨ds, rfl⟩
  · ((repeat walk_at "zs"); (try conv => whnf))
    exact k
  · ((repeat walk_at "zs"); (try conv => whnf))
    rw [decide_eq_true rfl]
    exact k
  · ((repeat walk_at "zs"); (try conv => whnf))
    rw [decide_eq_true rfl]
    exact k
  · have f := fm ⟨_, rfl⟩
    have e := SeqAt.eqv_refl _ (SeqAt.canLay_of_shaped f)
    ((repeat walk_at "zs"); (try conv => whnf))
    rw [e]
    exact k
theorem w_broken_figures (Fr : Addr → Prop) (svs : List SV) (Ω : Om) (Φ : PhiE) (Ξ : XA) (h : c_broken_figures svs Ω Φ Ξ) :
    a_broken_figures Fr { nx := fun _ Ω => Φ (.d .none) Ω, rt := Φ } (startR N_broken_figures svs) Ω := by
  obtain ⟨pq, n0, n1, k⟩ := h
  rename_i n p q
  have q2 := pq.q2
  have qp := pq.qp
  have p10 := pq.p10
  have ln := bf_len1000 pq n0 n1
  ((repeat walk_at "zs"); (try conv => whnf))
  intro a fa
  ((repeat walk_at "zs"); (try conv => whnf))
  refine ⟨fun m ρ Ω' => ∃ (c : Int) (is : List Int), ρ = [some (I c), some (I p), some (I q), some (.r (.ref a))] ∧ Ω' = (a, .lst (isD is)) :: Ω ∧ 0 ≤ c ∧ c ≤ 10 ^ 40 ∧ m = c.toNat ∧ bfW p q n = is ++ bfW p q c, ⟨_, n, [], rfl, rfl, n0, n1, rfl, rfl⟩, ?_⟩
  rintro m ρ Ω ⟨c, is, rfl, rfl, c0, c1, rfl, e⟩
  have l2 : is.length ≤ 1000 := by rw [e, List.length_append] at ln; omega
  have sz : (isD is).length < sizeLine := by rw [len_isD]; exact Nat.lt_of_le_of_lt l2 (by decide)
  have cm : CMulX q c := cmul (Int.lt_of_lt_of_le (by decide) q2) (Int.lt_trans qp (Int.lt_of_le_of_lt p10 (by decide))) (Int.lt_of_lt_of_le (by decide) c0) (Int.lt_of_le_of_lt c1 (by decide))
  have cd : ∀ i, CDivW i p := fun i => cdiv (by omega) (Int.lt_of_le_of_lt p10 (by decide))
  ((repeat walk_at "zs"); (try conv => whnf))
  refine br_d (fun z => ?_) fun z => ?_
  · have s := pq.lt z
    ((repeat walk_at "zs"); (try conv => whnf))
    refine ⟨_, ?_, q * c / p, is ++ [(q * c) % p], rfl, ?_, s.1, Int.le_trans (Int.le_of_lt s.2) c1, rfl, ?_⟩
    · omega
    · rw [← app_isD]; rfl
    · rw [e, bfW_pos pq z]; simp
  · have : c = 0 := by omega
    subst this
    rw [bfW_zero, List.append_nil] at e
    subst e
    ((repeat walk_at "zs"); (try conv => whnf))
    exact ⟨_, .cons _ (.refl _), k⟩
theorem w_l_figures (Fr : Addr → Prop) (svs : List SV) (Ω : Om) (Φ : PhiE) (Ξ : XA) (h : c_l_figures svs Ω Φ Ξ) :
    a_l_figures Fr { nx := fun _ Ω => Φ (.d .none) Ω, rt := Φ } (startR N_l_figures svs) Ω := by
  obtain ⟨pq, n0, n1, k⟩ := h
  rename_i n p q
  have q2 := pq.q2
  have qp := pq.qp
  have p10 := pq.p10
  have ln := bf_len1000 pq n0 n1
  ((repeat walk_at "zs"); (try conv => whnf))
  intro a fa
  ((repeat walk_at "zs"); (try conv => whnf))
  refine ⟨fun m ρ Ω' => ∃ (c : Int) (is : List Int), ρ = [some (I c), some (I p), some (I q), some (.r (.ref a))] ∧ Ω' = (a, .lst (isD is)) :: Ω ∧ 0 ≤ c ∧ c ≤ 10 ^ 40 ∧ m = c.toNat ∧ bfW p q n = is ++ bfW p q c, ⟨_, n, [], rfl, rfl, n0, n1, rfl, rfl⟩, ?_⟩
  rintro m ρ Ω ⟨c, is, rfl, rfl, c0, c1, rfl, e⟩
  have l2 : is.length ≤ 1000 := by rw [e, List.length_append] at ln; omega
  have sz : (isD is).length < sizeLine := by rw [len_isD]; exact Nat.lt_of_le_of_lt l2 (by decide)
  have cm : CMulX q c := cmul (Int.lt_of_lt_of_le (by decide) q2) (Int.lt_trans qp (Int.lt_of_le_of_lt p10 (by decide))) (Int.lt_of_lt_of_le (by decide) c0) (Int.lt_of_le_of_lt c1 (by decide))
  have cd : ∀ i, CDivW i p := fun i => cdiv (by omega) (Int.lt_of_le_of_lt p10 (by decide))
  ((repeat walk_at "zs"); (try conv => whnf))
  refine br_d (fun z => ?_) fun z => ?_
  · have s := pq.lt z
    ((repeat walk_at "zs"); (try conv => whnf))
    refine ⟨_, ?_, q * c / p, is ++ [(q * c) % p], rfl, ?_, s.1, Int.le_trans (Int.le_of_lt s.2) c1, rfl, ?_⟩
    · omega
    · rw [← app_isD]; rfl
    · rw [e, bfW_pos pq z]; simp
  · have : c = 0 := by omega
    subst this
    rw [bfW_zero, List.append_nil] at e
    subst e
    ((repeat walk_at "zs"); (try conv => whnf))
    exact ⟨_, .cons _ (.refl _), k⟩
theorem w_broken_value (Fr : Addr → Prop) (svs : List SV) (Ω : Om) (Φ : PhiE) (Ξ : XA) (h : c_broken_value svs Ω Φ Ξ) :
    a_broken_value Fr { nx := fun _ Ω => Φ (.d .none) Ω, rt := Φ } (startR N_broken_value svs) Ω := by
  obtain ⟨pq, vw, k⟩ := h
  rename_i p q w
  have q2 := pq.q2
  have qp := pq.qp
  have p10 := pq.p10
  ((repeat walk_at "zs"); (try conv => whnf))
  rw [rev_isD]
  refine ⟨fun j ρ Ω' => ∃ (r5 : Option SV), ρ = [some (T (isD w)), some (I p), some (I q), some (I (vA p q (w.drop (w.length - j)))), some (I (q ^ (w.drop (w.length - j)).length)), r5, none] ∧ Ω' = Ω ∧ (w.drop (w.length - j)).length = j, ⟨none, by rw [Nat.sub_zero, List.drop_length, List.length_nil, Int.pow_zero]; rfl, rfl, by rw [Nat.sub_zero, List.drop_length]; rfl⟩, fun _ _ _ _ => trivial, ?_, ?_⟩
  · rintro j y ρ Ω e ⟨r5, rfl, rfl, lj⟩
    obtain ⟨z, hz, rfl⟩ := get_isD e
    obtain ⟨ed, lt⟩ := drop_rev hz
    obtain ⟨a0, a1, b0, b1⟩ := (vw.drop (w.length - j)).b pq
    have zf := vw.f z (List.mem_reverse.mp (List.mem_of_getElem? hz))
    have m1 := b9_mul zf.1 (b9_sm (Int.le_trans zf.2 (by decide))) (by omega) b1
    have m2 := b9_mul (a := p) (by omega) (b9_sm (Int.le_trans p10 (by decide))) a0 a1
    have m3 := b9_mul (a := q) (by omega) (b9_sm (Int.le_trans (Int.le_of_lt (Int.lt_of_lt_of_le qp p10)) (by decide))) (by omega) b1
    ((repeat walk_at "zs"); (try conv => whnf))
    refine ⟨some (I z), ?_, rfl, by rw [ed, List.length_cons, lj]⟩
    rw [ed]
    simp only [vA, List.length_cons]
    rw [Int.pow_succ, Int.mul_comm (q ^ _) q]
    rfl
  · rintro ρ Ω ⟨r5, rfl, rfl, lj⟩
    rw [List.length_map, len_isD, List.length_reverse, Nat.sub_self, List.drop_zero]
    obtain ⟨a0, a1, b0, b1⟩ := vw.b pq
    have g0 := g2_pos (a := vA p q w) (b := q ^ w.length) (by omega)
    have g1 := g2_le (a := vA p q w) (b := q ^ w.length) (by omega)
    have cd : ∀ i, CDivW i ((Nat.gcd (vA p q w).natAbs (q ^ w.length).natAbs : Nat) : Int) := fun i => ⟨g0, b9_log (Int.le_of_lt g0) (Int.le_trans g1 b1)⟩
    ((repeat walk_at "zs"); (try conv => whnf))
    refine ⟨cd _, ?_⟩
    ((repeat walk_at "zs"); (try conv => whnf))
    refine ⟨cd _, ?_⟩
    ((repeat walk_at "zs"); (try conv => whnf))
    exact k
end
section
local macro_rules | `(tactic| walk_at "z1") => `(tactic| ((try dsimp only); first | done | exact True.intro | exact Nat.le_of_ble_eq_true rfl | (with_reducible assumption) | rfl | omega | (exact ⟨by omega, by omega⟩) | (exact cmul (by omega) (by omega) (by omega) (by omega)) | (exact cdiv (by omega) (by omega)) | (exact Or.inl ⟨by omega, by omega⟩) | (exact Or.inr ⟨by omega, by omega⟩) | decide | assumption | (simp only [List.length_map, List.length_range, List.length_append, List.length_cons, List.length_nil, List.length_replicate, len_repD]; omega)))
local macro_rules | `(tactic| walk_at "zs") => `(tactic| ((conv => whnf); first | with_reducible refine br_T ?_ | with_reducible refine br_F ?_ | with_reducible refine br_d1 rfl ?_ | with_reducible refine br_n ?_ | ((with_reducible refine br_d1 ?_ ?_); (focus omega)) | ((with_reducible refine br_d0 ?_ ?_); (focus omega)) | ((fail_if_success (fail_if_success (with_reducible refine br.mk ?_ ?_))); (fail_if_success with_reducible refine br_d ?_ ?_); first | refine br_T ?_ | refine br_F ?_) | ((fail_if_success (fail_if_success (with_reducible refine And.intro ?_ ?_))); first | refine And.intro (by walk_at "z1") ?_ | refine ⟨⟨_, _, .here, trivial⟩, ?_⟩) | ((fail_if_success (fail_if_success (with_reducible refine Exists.intro ?_ ?_))); first | refine ⟨_, _, .here, ?_⟩ | refine ⟨_, true, rfl, rfl, ?_⟩ | refine ⟨_, false, rfl, rfl, ?_⟩ | refine ⟨_, (by rfl : atI _ _ = some _), ?_⟩ | refine ⟨_, (by assumption : atI _ _ = some _), ?_⟩)))
theorem fold_raw {p q : Int} {w : List Int} : trm (cr p q 0 w) = crd p q w := rfl
theorem w_broken_carried (Fr : Addr → Prop) (svs : List SV) (Ω : Om) (Φ : PhiE) (Ξ : XA) (h : c_broken_carried svs Ω Φ Ξ) :
    a_broken_carried Fr { nx := fun _ Ω => Φ (.d .none) Ω, rt := Φ } (startR N_broken_carried svs) Ω := by
  obtain ⟨pq, vw, k⟩ := h
  rename_i p q w
  have q2 := pq.q2
  have qp := pq.qp
  have p10 := pq.p10
  have li := len_isD w
  have wn := vw.n
  obtain ⟨ln, -⟩ := cr_len pq (w := w) (Int.le_refl 0) (by decide) vw.f
  have cd : ∀ i, CDivW i p := fun i => cdiv (by omega) (Int.lt_of_le_of_lt p10 (by decide))
  have dvb : ∀ n, 0 ≤ n → 0 ≤ n / p ∧ n / p ≤ n := fun n h => ⟨Int.ediv_nonneg h (by omega), Int.ediv_le_self _ h⟩
  ((repeat walk_at "zs"); (try conv => whnf))
  intro a fa
  ((repeat walk_at "zs"); (try conv => whnf))
  refine ⟨fun m ρ Ω' => ∃ (o : Int) (j : Nat) (is : List Int) (r6 : Option SV), ρ = [some (T (isD w)), some (I p), some (I q), some (.r (.ref a)), some (I o), some (I (j : Nat)), r6] ∧ Ω' = (a, .lst (isD is)) :: Ω ∧ 0 ≤ o ∧ o ≤ 10 ^ 9 - 10 ^ 8 ∧ m = (w.length - j) * 2000000000 + o.toNat ∧ cr p q 0 w = is ++ cr p q o (w.drop j), ⟨_, 0, 0, [], _, rfl, rfl, by decide, by decide, rfl, rfl⟩, ?_⟩
  rintro m ρ Ω ⟨o, j, is, r6, rfl, rfl, o0, o1, rfl, e⟩
  have l2 : is.length ≤ 2200 := by rw [e, List.length_append] at ln; omega
  have sz : (isD is).length < sizeLine := by rw [len_isD]; exact Nat.lt_of_le_of_lt l2 (by decide)
  ((repeat walk_at "zs"); (try conv => whnf))
  refine br_d (fun z => ?_) fun z => ?_
  · have lt : j < w.length := by omega
    have fj := vw.f w[j] (List.getElem_mem lt)
    obtain ⟨s0, s1⟩ := pq.over o0 o1 fj.1 fj.2
    have ea : atI (isD w) (j : Int) = some (.int w[j]) := at_isD (by omega) (by rw [Int.toNat_natCast]; exact List.getElem?_eq_getElem lt)
    have ed : w.drop j = w[j] :: w.drop (j + 1) := List.drop_eq_getElem_cons lt
    have dv := dvb (o + w[j]) (by omega)
    have cm : CMulX q ((o + w[j]) / p) := cmul (by omega) (by omega) (by omega) (by omega)
    ((repeat walk_at "zs"); (try conv => whnf))
    refine ⟨_, ?_, q * ((o + w[j]) / p), j + 1, is ++ [(o + w[j]) % p], _, rfl, ?_, s0, s1, rfl, ?_⟩
    · omega
    · rw [← app_isD]; rfl
    · rw [e, ed, cr]; simp
  · have dn : w.drop j = [] := List.drop_eq_nil_iff.mpr (by omega)
    rw [dn] at e
    ((repeat walk_at "zs"); (try conv => whnf))
    refine br_d (fun z2 => ?_) fun z2 => ?_
    · have s2 := pq.lt2 z2
      have s3 := pq.step2 (n := o) (by omega)
      have e0 : o + 0 = o := Int.add_zero o
      have dv := dvb (o + 0) (by omega)
      have cm : CMulX q ((o + 0) / p) := cmul (by omega) (by omega) (by omega) (by omega)
      ((repeat walk_at "zs"); (try conv => whnf))
      refine ⟨_, ?_, q * ((o + 0) / p), j + 1, is ++ [(o + 0) % p], _, rfl, ?_, by rw [e0]; exact s2.1, by rw [e0]; omega, rfl, ?_⟩
      · rw [e0]; omega
      · rw [← app_isD]; rfl
      · rw [e, List.drop_eq_nil_iff.mpr (show w.length ≤ j + 1 by omega), e0]
        show is ++ tlW p q o = is ++ [o % p] ++ tlW p q (q * (o / p))
        rw [tlW_pos pq z2]; simp
    · have : o = 0 := by omega
      subst this
      have e : cr p q 0 w = is ++ tlW p q 0 := e
      rw [tlW_zero, List.append_nil] at e
      subst e
      ((repeat walk_at "zs"); (try conv => whnf))
      refine ⟨_, .here, ?_⟩
      ((repeat walk_at "zs"); (try conv => whnf))
      refine .mk (by omega) ?_
      exact ⟨_, .refl _, k⟩
theorem w_l_carried (Fr : Addr → Prop) (svs : List SV) (Ω : Om) (Φ : PhiE) (Ξ : XA) (h : c_l_carried svs Ω Φ Ξ) :
    a_l_carried Fr { nx := fun _ Ω => Φ (.d .none) Ω, rt := Φ } (startR N_l_carried svs) Ω := by
  obtain ⟨pq, vw, k⟩ := h
  rename_i p q w
  have q2 := pq.q2
  have qp := pq.qp
  have p10 := pq.p10
  have li := len_isD w
  have wn := vw.n
  obtain ⟨ln, -⟩ := cr_len pq (w := w) (Int.le_refl 0) (by decide) vw.f
  have cd : ∀ i, CDivW i p := fun i => cdiv (by omega) (Int.lt_of_le_of_lt p10 (by decide))
  have dvb : ∀ n, 0 ≤ n → 0 ≤ n / p ∧ n / p ≤ n := fun n h => ⟨Int.ediv_nonneg h (by omega), Int.ediv_le_self _ h⟩
  ((repeat walk_at "zs"); (try conv => whnf))
  intro a fa
  ((repeat walk_at "zs"); (try conv => whnf))
  refine ⟨fun j ρ Ω' => ∃ (o : Int) (is : List Int) (r5 : Option SV), ρ = [some (T (isD w)), some (I p), some (I q), some (.r (.ref a)), some (I o), r5] ∧ Ω' = (a, .lst (isD is)) :: Ω ∧ 0 ≤ o ∧ o ≤ 10 ^ 9 - 10 ^ 8 ∧ is.length = j ∧ cr p q 0 w = is ++ cr p q o (w.drop j), ⟨0, [], _, rfl, rfl, by decide, by decide, rfl, rfl⟩, fun _ _ _ _ => trivial, ?_, ?_⟩
  · rintro j y ρ Ω e ⟨o, is, r5, rfl, rfl, o0, o1, l, e1⟩
    obtain ⟨f, hf, rfl⟩ := get_isD e
    have lt := (List.getElem?_eq_some_iff.mp hf).1
    have fj := vw.f f (List.mem_of_getElem? hf)
    obtain ⟨s0, s1⟩ := pq.over o0 o1 fj.1 fj.2
    have sz : (isD is).length < sizeLine := by rw [len_isD]; exact Nat.lt_of_le_of_lt (by omega : is.length ≤ 2200) (by decide)
    have ed : w.drop j = f :: w.drop (j + 1) := by
      obtain ⟨lt, e⟩ := List.getElem?_eq_some_iff.mp hf
      rw [List.drop_eq_getElem_cons lt, e]
    have dv := dvb (o + f) (by omega)
    have cm : CMulX ((o + f) / p) q := cmul (by omega) (by omega) (by omega) (by omega)
    ((repeat walk_at "zs"); (try conv => whnf))
    refine ⟨(o + f) / p * q, is ++ [(o + f) % p], _, rfl, ?_, by rw [Int.mul_comm]; exact s0, by rw [Int.mul_comm]; exact s1, by rw [List.length_append, l]; rfl, ?_⟩
    · rw [← app_isD]; rfl
    · rw [e1, ed, cr, Int.mul_comm q]; simp
  rintro ρ Ω ⟨o, is, r5, rfl, rfl, o0, o1, l, e1⟩
  rw [List.length_map, li, List.drop_length] at e1
  ((repeat walk_at "zs"); (try conv => whnf))
  refine ⟨fun m ρ Ω' => ∃ (o : Int) (is : List Int), ρ = [some (T (isD w)), some (I p), some (I q), some (.r (.ref a)), some (I o), r5] ∧ Ω' = (a, .lst (isD is)) :: Ω ∧ 0 ≤ o ∧ o ≤ 10 ^ 9 - 10 ^ 8 ∧ m = o.toNat ∧ cr p q 0 w = is ++ tlW p q o, ⟨_, o, is, rfl, rfl, o0, o1, rfl, e1⟩, ?_⟩
  clear e1 o0 o1 l
  rintro m ρ Ω ⟨o, is, rfl, rfl, o0, o1, rfl, e⟩
  have l2 : is.length ≤ 2200 := by rw [e, List.length_append] at ln; omega
  have sz : (isD is).length < sizeLine := by rw [len_isD]; exact Nat.lt_of_le_of_lt l2 (by decide)
  ((repeat walk_at "zs"); (try conv => whnf))
  refine br_d (fun z2 => ?_) fun z2 => ?_
  · have s2 := pq.lt2 z2
    have s3 := pq.step2 (n := o) (by omega)
    have dv := dvb o (by omega)
    have cm : CMulX (o / p) q := cmul (by omega) (by omega) (by omega) (by omega)
    ((repeat walk_at "zs"); (try conv => whnf))
    refine ⟨_, ?_, o / p * q, is ++ [o % p], rfl, ?_, by rw [Int.mul_comm]; exact s2.1, by rw [Int.mul_comm]; omega, rfl, ?_⟩
    · rw [Int.mul_comm]; omega
    · rw [← app_isD]; rfl
    · rw [e, tlW_pos pq z2, Int.mul_comm q]; simp
  · have : o = 0 := by omega
    subst this
    rw [tlW_zero, List.append_nil] at e
    have fin : trm is = crd p q w := by rw [← e]; rfl
    clear e
    ((repeat walk_at "zs"); (try conv => whnf))
    refine ⟨fun m ρ Ω' => ∃ (js : List Int), ρ = [some (T (isD w)), some (I p), some (I q), some (.r (.ref a)), some (I 0), r5] ∧ Ω' = (a, .lst (isD js)) :: Ω ∧ m = js.length ∧ trm js = crd p q w, ⟨_, is, rfl, rfl, rfl, fin⟩, ?_⟩
    clear fin sz l2
    rintro m ρ Ω ⟨js, rfl, rfl, rfl, e⟩
    ((repeat walk_at "zs"); (try conv => whnf))
    refine ⟨(shaped_isD _).2, shaped_nil, ?_⟩
    rw [eqv_nil]
    refine br_n (br_d (fun z => ?_) fun z => ?_)
    · subst z
      have e : [] = crd p q w := e
      rw [← e] at k
      ((repeat walk_at "zs"); (try conv => whnf))
      exact ⟨_, .cons _ (.refl _), k⟩
    · obtain ⟨l, i, rfl⟩ : ∃ l i, js = l ++ [i] := ⟨js.dropLast, js.getLast z, (List.dropLast_concat_getLast z).symm⟩
      have la : atI (isD (l ++ [i])) (-1) = some (.int i) := last_isD (by simp)
      have dl : (isD (l ++ [i])).dropLast = isD l := by simp [isD]
      ((repeat walk_at "zs"); (try conv => whnf))
      refine br_d (fun z0 => ?_) fun z0 => ?_
      · subst z0
        rw [trm_zero] at e
        ((repeat walk_at "zs"); (try conv => whnf))
        refine ⟨.int 0, by simp [isD], ?_⟩
        ((repeat walk_at "zs"); (try conv => whnf))
        rw [dl]
        refine ⟨_, ?_, l, rfl, rfl, rfl, e⟩
        simp
      · rw [trm_ne z0] at e
        ((repeat walk_at "zs"); (try conv => whnf))
        rw [← e] at k
        exact ⟨_, .cons _ (.refl _), k⟩
end
section
local macro_rules | `(tactic| walk_at "z1") => `(tactic| ((try dsimp only); first | done | exact True.intro | exact Nat.le_of_ble_eq_true rfl | (with_reducible assumption) | rfl | omega | (exact ⟨by omega, by omega⟩) | (exact cmul (by omega) (by omega) (by omega) (by omega)) | (exact cdiv (by omega) (by omega)) | (exact Or.inl ⟨by omega, by omega⟩) | (exact Or.inr ⟨by omega, by omega⟩) | decide | assumption | (simp only [List.length_map, List.length_range, List.length_append, List.length_cons, List.length_nil, List.length_replicate, len_repD]; omega)))
local macro_rules | `(tactic| walk_at "zs") => `(tactic| ((conv => whnf); first | with_reducible refine br_T ?_ | with_reducible refine br_F ?_ | with_reducible refine br_d1 rfl ?_ | with_reducible refine br_n ?_ | ((with_reducible refine br_d1 ?_ ?_); (focus omega)) | ((with_reducible refine br_d0 ?_ ?_); (focus omega)) | ((fail_if_success (fail_if_success (with_reducible refine br.mk ?_ ?_))); (fail_if_success with_reducible refine br_d ?_ ?_); first | refine br_T ?_ | refine br_F ?_) | ((fail_if_success (fail_if_success (with_reducible refine And.intro ?_ ?_))); first | refine And.intro (by walk_at "z1") ?_ | refine ⟨⟨_, _, .here, trivial⟩, ?_⟩) | ((fail_if_success (fail_if_success (with_reducible refine Exists.intro ?_ ?_))); first | refine ⟨_, _, .here, ?_⟩ | refine ⟨_, true, rfl, rfl, ?_⟩ | refine ⟨_, false, rfl, rfl, ?_⟩ | refine ⟨_, (by rfl : atI _ _ = some _), ?_⟩ | refine ⟨_, (by assumption : atI _ _ = some _), ?_⟩)))
theorem w_l_value (Fr : Addr → Prop) (svs : List SV) (Ω : Om) (Φ : PhiE) (Ξ : XA) (h : c_l_value svs Ω Φ Ξ) :
    a_l_value Fr { nx := fun _ Ω => Φ (.d .none) Ω, rt := Φ } (startR N_l_value svs) Ω := by
  obtain ⟨pq, vw, k⟩ := h
  rename_i p q w
  have q2 := pq.q2
  have qp := pq.qp
  have p10 := pq.p10
  have cd : ∀ i, CDivW i q := fun i => cdiv (by omega) (Int.lt_trans qp (Int.lt_of_le_of_lt p10 (by decide)))
  ((repeat walk_at "zs"); (try conv => whnf))
  rw [rev_isD]
  refine ⟨fun j ρ Ω' => ∃ (r5 : Option SV), ρ = [some (T (isD w)), some (I p), some (I q), some (I (vA p q (w.drop (w.length - j)))), some (I (q ^ (w.drop (w.length - j)).length)), r5, none] ∧ Ω' = Ω ∧ (w.drop (w.length - j)).length = j, ⟨none, by rw [Nat.sub_zero, List.drop_length, List.length_nil, Int.pow_zero]; rfl, rfl, by rw [Nat.sub_zero, List.drop_length]; rfl⟩, fun _ _ _ _ => trivial, ?_, ?_⟩
  · rintro j y ρ Ω e ⟨r5, rfl, rfl, lj⟩
    obtain ⟨z, hz, rfl⟩ := get_isD e
    obtain ⟨ed, lt⟩ := drop_rev hz
    obtain ⟨a0, a1, b0, b1⟩ := (vw.drop (w.length - j)).b pq
    have zf := vw.f z (List.mem_reverse.mp (List.mem_of_getElem? hz))
    have m1 := b9_mul zf.1 (b9_sm (Int.le_trans zf.2 (by decide))) (by omega) b1
    have m2 := b9_mul a0 a1 (b := p) (by omega) (b9_sm (Int.le_trans p10 (by decide)))
    have m3 := b9_mul (by omega) b1 (b := q) (by omega) (b9_sm (Int.le_trans (Int.le_of_lt (Int.lt_of_lt_of_le qp p10)) (by decide)))
    ((repeat walk_at "zs"); (try conv => whnf))
    refine ⟨some (I z), ?_, rfl, by rw [ed, List.length_cons, lj]⟩
    rw [ed]
    simp only [vA, List.length_cons]
    rw [Int.pow_succ, Int.add_comm, Int.mul_comm p]
    rfl
  rintro ρ Ω ⟨r5, rfl, rfl, lj⟩
  rw [List.length_map, len_isD, List.length_reverse, Nat.sub_self, List.drop_zero]
  obtain ⟨a0, a1, b0, b1⟩ := vw.b pq
  ((repeat walk_at "zs"); (try conv => whnf))
  refine br_d (fun z => ?_) fun z => ?_
  · rw [bvl_zero pq z] at k
    ((repeat walk_at "zs"); (try conv => whnf))
    exact k
  ((repeat walk_at "zs"); (try conv => whnf))
  refine ⟨fun m ρ Ω' => ∃ (a b : Int) (i : Nat), ρ = [some (T (isD w)), some (I p), some (I q), some (I a), some (I b), r5, none] ∧ Ω' = Ω ∧ Lt p q w a b ∧ m = b.toNat ∧ b = q ^ i, ⟨_, _, _, w.length, rfl, rfl, ⟨by omega, by omega, rfl, Int.dvd_refl _⟩, rfl, rfl⟩, ?_⟩
  rintro m ρ Ω ⟨a, b, i, rfl, rfl, l, rfl, bi⟩
  have lb := l.b0
  have after : ∀ {a b : Int}, Lt p q w a b → (aSeq (aFor (aIt (aTup (aCons (aC (.d (.int 2))) (aCons (aC (.d (.int 3))) (aCons (aC (.d (.int 5))) (aCons (aC (.d (.int 7))) aNil)))))) (gN 6) (aWhile (aAnd (aB (aBin arEq (aBin arMod (aCB acInt (aCons (aVar 3) aNil)) (aVar 6)) (aC (.d (.int 0))))) (aB (aBin arEq (aBin arMod (aCB acInt (aCons (aVar 4) aNil)) (aVar 6)) (aC (.d (.int 0)))))) (aPar2 3 4 (aCons (aBin arDiv (aVar 3) (aVar 6)) (aCons (aBin arDiv (aVar 4) (aVar 6)) aNil)))))
    (aRet (aTup (aCons (aVar 3) (aCons (aVar 4) aNil))))) { nx := fun _ Ω => Φ (.d .none) Ω, rt := Φ } [some (T (isD w)), some (I p), some (I q), some (I a), some (I b), r5, none] Ω := by
    clear l lb a0 a1 b0 b1 z lj
    intro a b l
    ((repeat walk_at "zs"); (try conv => whnf))
    refine ⟨fun j ρ Ω' => ∃ (a b : Int) (r6 : Option SV), ρ = [some (T (isD w)), some (I p), some (I q), some (I a), some (I b), r5, r6] ∧ Ω' = Ω ∧ Lt p q w a b ∧ ∀ r ∈ ([2, 3, 5, 7] : List Int).take j, Nd r a b, ⟨a, b, _, rfl, rfl, l, by simp⟩, fun _ _ _ _ => trivial, ?_, ?_⟩
    · clear l
      rintro j y ρ Ω e ⟨a, b, r6, rfl, rfl, l, nd⟩
      obtain ⟨r, hr, rfl⟩ : ∃ r : Int, ([2, 3, 5, 7] : List Int)[j]? = some r ∧ y = I r := get_isD (is := [2, 3, 5, 7]) e
      have r2 : 2 ≤ r ∧ r ≤ 7 := by
        have := List.mem_of_getElem? hr
        simp only [List.mem_cons, List.not_mem_nil, or_false] at this
        omega
      have cr : ∀ i, CDivW i r := fun i => cdiv (by omega) (by omega)
      ((repeat walk_at "zs"); (try conv => whnf))
      refine ⟨fun m ρ Ω' => ∃ (a b : Int), ρ = [some (T (isD w)), some (I p), some (I q), some (I a), some (I b), r5, some (I r)] ∧ Ω' = Ω ∧ Lt p q w a b ∧ (∀ r ∈ ([2, 3, 5, 7] : List Int).take j, Nd r a b) ∧ m = b.toNat, ⟨_, a, b, rfl, rfl, l, nd, rfl⟩, ?_⟩
      clear l nd
      rintro m ρ Ω ⟨a, b, rfl, rfl, l, nd, rfl⟩
      have out : Nd r a b → ((fun j ρ Ω' => ∃ (a b : Int) (r6 : Option SV), ρ = [some (T (isD w)), some (I p), some (I q), some (I a), some (I b), r5, r6] ∧ Ω' = Ω ∧ Lt p q w a b ∧ ∀ r ∈ ([2, 3, 5, 7] : List Int).take j, Nd r a b) : Nat → Rho → Om → Prop) (j + 1) [some (T (isD w)), some (I p), some (I q), some (I a), some (I b), r5, some (I r)] Ω := by
        intro h
        refine ⟨a, b, _, rfl, rfl, l, fun s hs => ?_⟩
        rw [List.take_add_one, hr] at hs
        rcases List.mem_append.mp hs with hs | hs
        · exact nd s hs
        · simp at hs
          subst hs
          exact h
      ((repeat walk_at "zs"); (try conv => whnf))
      refine br_d (fun x => ?_) fun x => ?_
      · ((repeat walk_at "zs"); (try conv => whnf))
        refine br_d (fun y => ?_) fun y => ?_
        · obtain ⟨l2, lt⟩ := l.div r2.1 x y
          have := l2.b0
          ((repeat walk_at "zs"); (try conv => whnf))
          refine ⟨_, ?_, a / r, b / r, rfl, rfl, l2, fun s hs => nd_div (nd s hs) x y, rfl⟩
          omega
        · ((repeat walk_at "zs"); (try conv => whnf))
          exact out fun h => y h.2
      · ((repeat walk_at "zs"); (try conv => whnf))
        exact out fun h => x h.1
    · rintro ρ Ω ⟨a, b, r6, rfl, rfl, l, nd⟩
      have nd : ∀ r ∈ ([2, 3, 5, 7] : List Int), Nd r a b := nd
      have f := l.fin pq (nd 2 (by simp)) (nd 3 (by simp)) (nd 5 (by simp)) (nd 7 (by simp))
      rw [← f] at k
      ((repeat walk_at "zs"); (try conv => whnf))
      exact k
  ((repeat walk_at "zs"); (try conv => whnf))
  refine br_d (fun x => ?_) fun x => ?_
  · ((repeat walk_at "zs"); (try conv => whnf))
    refine br_d (fun y => ?_) fun y => ?_
    · obtain ⟨i', rfl⟩ : ∃ i', i = i' + 1 := by
        cases i with
        | zero => rw [Int.pow_zero] at bi; omega
        | succ n => exact ⟨n, rfl⟩
      have yb : b % q = 0 := by rw [bi, Int.pow_succ]; exact Int.mul_emod_left ..
      have bq : b / q = q ^ i' := by rw [bi, Int.pow_succ]; exact Int.mul_ediv_cancel _ (by omega)
      obtain ⟨l2, lt⟩ := l.div q2 y yb
      have := l2.b0
      ((repeat walk_at "zs"); (try conv => whnf))
      refine ⟨_, ?_, a / q, b / q, i', rfl, rfl, l2, rfl, bq⟩
      omega
    · exact after l
  · conv => whnf
    refine br_F ?_
    exact after l
end
section
local macro_rules | `(tactic| walk_at "z1") => `(tactic| ((try dsimp only); first | done | exact True.intro | exact Nat.le_of_ble_eq_true rfl | (with_reducible assumption) | rfl | omega | (exact ⟨by omega, by omega⟩) | (exact cmul (by omega) (by omega) (by omega) (by omega)) | (exact cdiv (by omega) (by omega)) | (exact Or.inl ⟨by omega, by omega⟩) | (exact Or.inr ⟨by omega, by omega⟩) | decide | assumption | (simp only [List.length_map, List.length_range, List.length_append, List.length_cons, List.length_nil, List.length_replicate, len_repD]; omega)))
local macro_rules | `(tactic| walk_at "zs") => `(tactic| ((conv => whnf); first | with_reducible refine br_T ?_ | with_reducible refine br_F ?_ | with_reducible refine br_d1 rfl ?_ | with_reducible refine br_n ?_ | ((with_reducible refine br_d1 ?_ ?_); (focus omega)) | ((with_reducible refine br_d0 ?_ ?_); (focus omega)) | ((fail_if_success (fail_if_success (with_reducible refine br.mk ?_ ?_))); (fail_if_success with_reducible refine br_d ?_ ?_); first | refine br_T ?_ | refine br_F ?_) | ((fail_if_success (fail_if_success (with_reducible refine And.intro ?_ ?_))); first | refine And.intro (by walk_at "z1") ?_ | refine ⟨⟨_, _, .here, trivial⟩, ?_⟩) | ((fail_if_success (fail_if_success (with_reducible refine Exists.intro ?_ ?_))); first | refine ⟨_, _, .here, ?_⟩ | refine ⟨_, true, rfl, rfl, ?_⟩ | refine ⟨_, false, rfl, rfl, ?_⟩ | refine ⟨_, (by rfl : atI _ _ = some _), ?_⟩ | refine ⟨_, (by assumption : atI _ _ = some _), ?_⟩)))
theorem map_isD (u : List Int) (f : Int → Int) : (isD u).map (fun d => PyData.int (f (toI d))) = isD (u.map f) := by
  unfold isD
  rw [List.map_map, List.map_map]; rfl
theorem zip_isD : ∀ u v : List Int, (isD u).zip (isD v) = (u.zip v).map fun p => (PyData.int p.1, PyData.int p.2)
  | [], _ => by simp [isD]
  | _ :: _, [] => by simp [isD]
  | a :: u, b :: v => by
    have ih := zip_isD u v
    simp only [isD] at ih
    simp only [isD, List.map_cons, List.zip_cons_cons, ih]
theorem w_word_sum (Fr : Addr → Prop) (svs : List SV) (Ω : Om) (Φ : PhiE) (Ξ : XA) (h : c_word_sum svs Ω Φ Ξ) :
    a_word_sum Fr { nx := fun _ Ω => Φ (.d .none) Ω, rt := Φ } (startR N_word_sum svs) Ω := by
  obtain ⟨lu, lv, k⟩ := h
  rename_i u v
  have l1 := len_isD u
  have l2 := len_isD v
  have sz : (100000 : Nat) ≤ sizeLine := by decide
  have mx : (if ((isD v).length : Int) > (isD u).length then ((isD v).length : Int) else (isD u).length) = ((max u.length v.length : Nat) : Int) := by
    rw [l1, l2]
    split <;> omega
  ((repeat walk_at "zs"); (try conv => whnf))
  dsimp only
  rw [mx]
  have f1 : isD u ++ repD [PyData.int 0] (((max u.length v.length : Nat) : Int) - (isD u).length) = isD (fill (max u.length v.length) u) := by
    rw [fill_isD, l1, show (((max u.length v.length : Nat) : Int) - (u.length : Nat)).toNat = max u.length v.length - u.length by omega]; rfl
  have f2 : isD v ++ repD [PyData.int 0] (((max u.length v.length : Nat) : Int) - (isD v).length) = isD (fill (max u.length v.length) v) := by
    rw [fill_isD, l2, show (((max u.length v.length : Nat) : Int) - (v.length : Nat)).toNat = max u.length v.length - v.length by omega]; rfl
  rw [f1, f2]
  have zl : (zpD (isD (fill (max u.length v.length) u)) (isD (fill (max u.length v.length) v))).length ≤ 1000000 := by
    unfold zpD
    rw [List.length_map, List.length_zip, len_isD, len_isD, fill_len (Nat.le_max_left ..), fill_len (Nat.le_max_right ..)]
    omega
  refine lc_at (fun i => PyData.int ((sumL u v).getD i 0)) (fun Ω' => Ω' = Ω) zl rfl (fun _ _ => trivial) (fun i x Ω2 Y N e hj kk => ?_) fun Ω2 hj => ?_
  · subst hj
    unfold zpD at e
    rw [zip_isD, List.map_map, List.getElem?_map] at e
    obtain ⟨pr, hp, rfl⟩ : ∃ pr, ((fill (max u.length v.length) u).zip (fill (max u.length v.length) v))[i]? = some pr ∧ x = SV.d (.tuple [.int pr.1, .int pr.2]) := by
      cases z : ((fill (max u.length v.length) u).zip (fill (max u.length v.length) v))[i]? with
      | none => rw [z] at e; cases e
      | some pr => rw [z] at e; cases e; exact ⟨pr, rfl, rfl⟩
    ((repeat walk_at "zs"); (try conv => whnf))
    have q : (sumL u v).getD i 0 = pr.1 + pr.2 := by
      obtain ⟨a, b⟩ := List.getElem?_zip_eq_some.mp hp
      unfold sumL
      rw [List.getD_eq_getElem?_getD, List.getElem?_zipWith, a, b]; rfl
    rw [← q]
    exact kk _ rfl
  · subst hj
    have zl2 : (zpD (isD (fill (max u.length v.length) u)) (isD (fill (max u.length v.length) v))).length = (sumL u v).length := by
      unfold zpD sumL
      rw [List.length_map, List.length_zip, len_isD, len_isD, List.length_zipWith]
    have e : (List.range (zpD (isD (fill (max u.length v.length) u)) (isD (fill (max u.length v.length) v))).length).map (fun i => PyData.int ((sumL u v).getD i 0)) = isD (sumL u v) := by
      rw [zl2]
      unfold isD
      refine List.ext_getElem? fun i => ?_
      rw [List.getElem?_map, List.getElem?_map]
      rcases Nat.lt_or_ge i (sumL u v).length with z | z
      · rw [List.getElem?_range z, List.getElem?_eq_getElem z]
        show some (PyData.int ((sumL u v).getD i 0)) = some (PyData.int _)
        rw [List.getD_eq_getElem?_getD, List.getElem?_eq_getElem z]; rfl
      · rw [List.getElem?_eq_none z, List.getElem?_eq_none (by rw [List.length_range]; exact z)]; rfl
    rw [e]
    ((repeat walk_at "zs"); (try conv => whnf))
    exact .mk (by rw [sumL_len]; omega) k
theorem w_times_word (Fr : Addr → Prop) (svs : List SV) (Ω : Om) (Φ : PhiE) (Ξ : XA) (h : c_times_word svs Ω Φ Ξ) :
    a_times_word Fr { nx := fun _ Ω => Φ (.d .none) Ω, rt := Φ } (startR N_times_word svs) Ω := by
  obtain ⟨lu, dig, t0, t1, k⟩ := h
  rename_i u t
  ((repeat walk_at "zs"); (try conv => whnf))
  refine lc_ints (fun f => t * f) (fun Ω' => Ω' = Ω) (by omega) rfl (fun _ _ => trivial) (fun d Ω2 Y N hd hj kk => ?_) fun Ω2 hj => ?_
  · subst hj
    have := dig d hd
    ((repeat walk_at "zs"); (try conv => whnf))
    have kk := kk _ rfl
    rw [Int.mul_comm t d] at kk
    exact kk
  · subst hj
    ((repeat walk_at "zs"); (try conv => whnf))
    exact .mk (by rw [List.length_map]; omega) k
theorem w_l_great (Fr : Addr → Prop) (svs : List SV) (Ω : Om) (Φ : PhiE) (Ξ : XA) (h : c_l_great svs Ω Φ Ξ) :
    a_l_great Fr { nx := fun _ Ω => Φ (.d .none) Ω, rt := Φ } (startR N_l_great svs) Ω := by
  obtain ⟨hB, b0, b1, k⟩ := h
  rename_i x L R b
  ((repeat walk_at "zs"); (try conv => whnf))
  refine ⟨fun m ρ Ω' => ∃ (f r : Int), ρ = [some x, some (I b), some (I f), some (I r)] ∧ 0 ≤ f ∧ f < r ∧ 1 ≤ r ∧ r ≤ 10 ^ 40 ∧ m = (b * 1000 - r).toNat ∧ Bag x L R Ω', ⟨_, 0, 1, rfl, by decide, by decide, by decide, by decide, rfl, hB⟩, ?_⟩
  clear hB
  rintro m ρ Ω ⟨f, r, rfl, f0, f1, r0, r1, rfl, hB⟩
  have cb : CMulX b 1000 := cmul (by omega) (by omega) (by decide) (by decide)
  ((repeat walk_at "zs"); (try conv => whnf))
  refine br_d (fun z => ?_) fun z => ?_
  · have cf : CMulX f 1000000 := cmul (by omega) (by omega) (by decide) (by decide)
    have cr : CMulX r 1000000 := cmul (by omega) (by omega) (by decide) (by decide)
    ((repeat walk_at "zs"); (try conv => whnf))
    refine .mk hB (by decide) (bel (by decide) (by decide)) fun d Ω d0 d1 hB => ?_
    ((repeat walk_at "zs"); (try conv => whnf))
    exact ⟨_, by omega, f * 1000000 + d, r * 1000000, rfl, by omega, by omega, by omega, by omega, rfl, hB⟩
  · ((repeat walk_at "zs"); (try conv => whnf))
    exact k _ _ (Int.emod_nonneg _ (by omega)) (Int.emod_lt_of_pos _ (by omega)) hB
theorem w_l_number (Fr : Addr → Prop) (svs : List SV) (Ω : Om) (Φ : PhiE) (Ξ : XA) (h : c_l_number svs Ω Φ Ξ) :
    a_l_number Fr { nx := fun _ Ω => Φ (.d .none) Ω, rt := Φ } (startR N_l_number svs) Ω := by
  obtain ⟨hB, k⟩ := h
  rename_i x L R
  ((repeat walk_at "zs"); (try conv => whnf))
  refine .mk hB (by decide) (bel (by decide) (by decide)) fun kd Ω kd0 kd1 hB => ?_
  have pw : (10 : Int) ^ Int.toNat 30 = 10 ^ 30 := by decide +kernel
  ((repeat walk_at "zs"); (try conv => whnf))
  refine br_d (fun z => ?_) fun z => ?_
  · ((repeat walk_at "zs"); (try conv => whnf))
    refine .mk hB (by decide) (bel (by decide) (by decide)) fun r Ω r0 r1 hB => ?_
    exact k _ _ r0 (by omega) hB
  ((repeat walk_at "zs"); (try conv => whnf))
  refine br_d (fun z1 => ?_) fun z1 => ?_
  · ((repeat walk_at "zs"); (try conv => whnf))
    refine .mk hB (by decide) (bel (by decide) (by decide)) fun r Ω r0 r1 hB => ?_
    ((repeat walk_at "zs"); (try conv => whnf))
    rw [pw]
    exact k _ _ (by omega) (by omega) hB
  ((repeat walk_at "zs"); (try conv => whnf))
  refine .mk hB (by decide) (bel (by decide) (by decide)) fun n Ω n0 n1 hB => ?_
  ((repeat walk_at "zs"); (try conv => whnf))
  refine ⟨fun j ρ Ω' => ∃ (r3 : Option SV), ρ = [some x, some (I kd), some (I (10 ^ j)), r3] ∧ Bag x L R Ω', ⟨_, rfl, hB⟩, fun _ _ _ _ => trivial, ?_, ?_⟩
  · clear hB
    rintro j y ρ Ω e ⟨r3, rfl, hB⟩
    obtain ⟨rfl, lt⟩ := rgS_get e
    obtain ⟨a, b⟩ := p10_le (j := j) (by omega)
    have cm : CMulX (10 ^ j) 10 := cmul (by omega) (by omega) (by decide) (by decide)
    ((repeat walk_at "zs"); (try conv => whnf))
    exact ⟨_, rfl, hB⟩
  · clear hB
    rintro ρ Ω ⟨r3, rfl, hB⟩
    rw [rgS_len]
    obtain ⟨a, b⟩ := p10_le (j := (1 + n).toNat) (by omega)
    ((repeat walk_at "zs"); (try conv => whnf))
    refine .mk hB a (by omega) fun r Ω r0 r1 hB => ?_
    ((repeat walk_at "zs"); (try conv => whnf))
    exact k _ _ (by omega) (by omega) hB
theorem pqB_int {p q : Int} (hp : 0 ≤ p) (hq : 0 ≤ q) : ((isD [2, 3, 5, 7]).map (fun d => decide (0 < p % toI d) || decide (0 < q % toI d))).all id = pqB p.toNat q.toNat := by
  have f : ∀ x : Int, 0 ≤ x → decide (0 < x % 2) = decide (0 < x.toNat % 2) ∧ decide (0 < x % 3) = decide (0 < x.toNat % 3) ∧ decide (0 < x % 5) = decide (0 < x.toNat % 5) ∧ decide (0 < x % 7) = decide (0 < x.toNat % 7) := by
    intro x hx
    refine ⟨?_, ?_, ?_, ?_⟩ <;> (congr 1; exact propext (by omega))
  obtain ⟨a2, a3, a5, a7⟩ := f p hp
  obtain ⟨b2, b3, b5, b7⟩ := f q hq
  show ((decide (0 < p % 2) || decide (0 < q % 2)) && ((decide (0 < p % 3) || decide (0 < q % 3)) && ((decide (0 < p % 5) || decide (0 < q % 5)) && ((decide (0 < p % 7) || decide (0 < q % 7)) && true)))) = _
  rw [a2, a3, a5, a7, b2, b3, b5, b7]; rfl
theorem w_l_pairs (Fr : Addr → Prop) (svs : List SV) (Ω : Om) (Φ : PhiE) (Ξ : XA) (h : c_l_pairs svs Ω Φ Ξ) :
    a_l_pairs Fr { nx := fun _ Ω => Φ (.d .none) Ω, rt := Φ } (startR N_l_pairs svs) Ω := by
  obtain ⟨k⟩ := h
  ((repeat walk_at "zs"); (try conv => whnf))
  intro a fa
  ((repeat walk_at "zs"); (try conv => whnf))
  refine ⟨fun j ρ Ω' => ∃ (l : List PyData) (r1 r2 r3 : Option SV), ρ = [some (.r (.ref a)), r1, r2, r3] ∧ Ω' = (a, .lst l) :: Ω ∧ (∀ d ∈ l, ∃ p q, d = prd (p, q) ∧ PQ p q) ∧ l.length ≤ 10 * j ∧ (0 < j → l ≠ []), ⟨[], _, _, _, rfl, rfl, by simp, by simp, fun h => absurd h (by decide)⟩, fun _ _ _ _ => trivial, ?_, ?_⟩
  · rintro j y ρ Ω e ⟨l, r1, r2, r3, rfl, rfl, al, ln, ne⟩
    obtain ⟨rfl, lt⟩ := rgS_get e
    have lt : j < 8 := lt
    obtain ⟨o1, o2, o3⟩ := pqL_ok (p := 3 + (j : Int)) (by omega) (by omega)
    have sz : (1000 : Nat) ≤ sizeLine := by decide
    ((repeat walk_at "zs"); (try conv => whnf))
    rw [rgI_eq]
    refine lc_fmI (fun q => pqB (3 + (j : Int)).toNat q.toNat) (fun q => prd (3 + (j : Int), q)) (fun Ω' => Ω' = (a, .lst l) :: Ω) (by rw [List.length_map, List.length_range]; omega) rfl (fun _ _ => trivial) (fun q Ω2 Y N hq hj y n => ?_) fun Ω2 hj => ?_
    · subst hj
      obtain ⟨i, hi, rfl⟩ := List.mem_map.mp hq
      have hi := List.mem_range.mp hi
      ((repeat walk_at "zs"); (try conv => whnf))
      refine lc_bools (ds := isD [2, 3, 5, 7]) (fun d => decide (0 < (3 + (j : Int)) % toI d) || decide (0 < (2 + (i : Int)) % toI d)) (fun Ω' => Ω' = (a, .lst l) :: Ω) (by decide) rfl (fun _ _ => trivial) (fun d Ω2 Y N hd hj kk => ?_) fun Ω2 hj => ?_
      · subst hj
        obtain ⟨r, hr, rfl⟩ := List.mem_map.mp hd
        have r2 : 2 ≤ r := by
          simp only [List.mem_cons, List.not_mem_nil, or_false] at hr
          omega
        ((repeat walk_at "zs"); (try conv => whnf))
        refine br_d (fun z => ?_) fun z => ?_
        · have e : (decide (0 < (3 + (j : Int)) % toI (.int r)) || decide (0 < (2 + (i : Int)) % toI (.int r))) = true := by
            rw [show toI (.int r) = r from rfl, decide_eq_true z]; rfl
          ((repeat walk_at "zs"); (try conv => whnf))
          rw [e] at kk
          exact kk _ rfl
        · have e : (decide (0 < (3 + (j : Int)) % toI (.int r)) || decide (0 < (2 + (i : Int)) % toI (.int r))) = decide (0 < (2 + (i : Int)) % r) := by
            rw [show toI (.int r) = r from rfl, decide_eq_false z]; rfl
          ((repeat walk_at "zs"); (try conv => whnf))
          rw [e] at kk
          exact kk _ rfl
      · subst hj
        ((repeat walk_at "zs"); (try conv => whnf))
        refine ⟨_, trivial, rfl, ?_⟩
        have eb : ((isD [2, 3, 5, 7]).map (fun d => decide (0 < (3 + (j : Int)) % toI d) || decide (0 < (2 + (i : Int)) % toI d))).all id = pqB (3 + (j : Int)).toNat (2 + (i : Int)).toNat := by
          exact pqB_int (by omega) (by omega)
        rw [eb]
        cases f : pqB (3 + (j : Int)).toNat (2 + (i : Int)).toNat with
        | false =>
          ((repeat walk_at "zs"); (try conv => whnf))
          exact n f _ rfl
        | true =>
          ((repeat walk_at "zs"); (try conv => whnf))
          exact y f _ rfl
    · subst hj
      have le : (pqL (3 + (j : Int))).length ≤ 10 := o2
      have sz2 : l.length + (pqL (3 + (j : Int))).length ≤ sizeLine := by omega
      ((repeat walk_at "zs"); (try conv => whnf))
      refine ⟨l ++ pqL (3 + (j : Int)), _, _, _, rfl, rfl, fun d hd => (List.mem_append.mp hd).elim (al d) (o1 d), by rw [List.length_append]; omega, fun _ z => ?_⟩
      rcases Nat.eq_zero_or_pos j with z0 | z0
      · subst z0
        exact o3 rfl (List.append_eq_nil_iff.mp z).2
      · exact ne z0 (List.append_eq_nil_iff.mp z).1
  · rintro ρ Ω ⟨l, r1, r2, r3, rfl, rfl, al, ln, ne⟩
    have ln : l.length ≤ 10 * 8 := ln
    ((repeat walk_at "zs"); (try conv => whnf))
    exact ⟨_, .here, _, .refl _, k l (ne (by decide)) (by omega) al⟩
end
section
local macro_rules | `(tactic| walk_at "z1") => `(tactic| ((try dsimp only); first | done | exact True.intro | exact Nat.le_of_ble_eq_true rfl | (with_reducible assumption) | rfl | omega | (exact ⟨by omega, by omega⟩) | (exact cmul (by omega) (by omega) (by omega) (by omega)) | (exact cdiv (by omega) (by omega)) | (exact Or.inl ⟨by omega, by omega⟩) | (exact Or.inr ⟨by omega, by omega⟩) | decide | assumption | (simp only [List.length_map, List.length_range, List.length_append, List.length_cons, List.length_nil, List.length_replicate, len_repD]; omega)))
local macro_rules | `(tactic| walk_at "zs") => `(tactic| ((conv => whnf); first | with_reducible refine br_T ?_ | with_reducible refine br_F ?_ | with_reducible refine br_d1 rfl ?_ | with_reducible refine br_n ?_ | ((with_reducible refine br_d1 ?_ ?_); (focus omega)) | ((with_reducible refine br_d0 ?_ ?_); (focus omega)) | ((fail_if_success (fail_if_success (with_reducible refine br.mk ?_ ?_))); (fail_if_success with_reducible refine br_d ?_ ?_); first | refine br_T ?_ | refine br_F ?_) | ((fail_if_success (fail_if_success (with_reducible refine And.intro ?_ ?_))); first | refine And.intro (by walk_at "z1") ?_ | refine ⟨⟨_, _, .here, trivial⟩, ?_⟩) | ((fail_if_success (fail_if_success (with_reducible refine Exists.intro ?_ ?_))); first | refine ⟨_, _, .here, ?_⟩ | refine ⟨_, true, rfl, rfl, ?_⟩ | refine ⟨_, false, rfl, rfl, ?_⟩ | refine ⟨_, (by rfl : atI _ _ = some _), ?_⟩ | refine ⟨_, (by assumption : atI _ _ = some _), ?_⟩)))
theorem ne_isD {is : List Int} : (isD is).isEmpty = is.isEmpty := by cases is <;> rfl
theorem isE {is : List Int} (h : is ≠ []) : is.isEmpty = false := by cases is with | nil => exact absurd rfl h | cons => rfl
theorem figV (j : Nat) : PyData.tuple [.str "figure", .int (j : Nat)] = figD j := rfl
theorem w_broken_error (Fr : Addr → Prop) (svs : List SV) (Ω : Om) (Φ : PhiE) (Ξ : XA) (h : c_broken_error svs Ω Φ Ξ) :
    a_broken_error Fr { nx := fun _ Ω => Φ (.d .none) Ω, rt := Φ } (startR N_broken_error svs) Ω := by
  obtain ⟨pq, ln, k⟩ := h
  rename_i p q d
  have q2 := pq.q2
  have qp := pq.qp
  have p10 := pq.p10
  cases d with
  | tuple ds =>
    have ln : ds.length ≤ 2000 := ln
    ((repeat walk_at "zs"); (try conv => whnf))
    refine br_d (fun gt => ?_) fun le => ?_
    · rw [jd_long (by omega)] at k
      ((repeat walk_at "zs"); (try conv => whnf))
      exact k
    have le : ds.length ≤ 1000 := by omega
    ((repeat walk_at "zs"); (try conv => whnf))
    refine lc_bools isI (fun Ω' => Ω' = Ω) (by omega) rfl (fun _ _ => trivial) (fun d Ω2 Y N hd e kk => ?_) fun Ω2 e => ?_
    · subst e
      ((repeat walk_at "zs"); (try conv => whnf))
      refine .mk ?_
      exact kk _ rfl
    have e' := e.symm
    subst e'
    clear e
    ((repeat walk_at "zs"); (try conv => whnf))
    refine ⟨_, trivial, rfl, ?_⟩
    rw [List.all_map, show (id ∘ isI) = isI from rfl]
    cases f : ds.all isI with
    | false =>
      rw [jd_form (by show (decide (ds.length ≤ 1000) && ds.all isI) = false; rw [f, Bool.and_false])] at k
      ((repeat walk_at "zs"); (try conv => whnf))
      exact k
    | true =>
      obtain ⟨is, rfl⟩ : ∃ is, ds = isD is := ⟨_, isI_all f⟩
      have li := len_isD is
      have l1 : is.length ≤ 1000 := by omega
      rw [jd_is l1] at k
      ((repeat walk_at "zs"); (try conv => whnf))
      refine ⟨fun j ρ Ω' => ∃ (r3 r4 : Option SV), ρ = [some (T (isD is)), some (I p), some (I q), r3, r4, none] ∧ Ω' = Ω ∧ ∀ i ∈ is.take j, 0 ≤ i ∧ i < p, ⟨_, _, rfl, rfl, by simp⟩, fun _ _ _ _ => trivial, ?_, ?_⟩
      · rintro j y ρ Ω2 e ⟨r3, r4, rfl, rfl, al⟩
        obtain ⟨d, hd, rfl⟩ := enD_get e
        obtain ⟨a, ha, rfl⟩ := get_isD' hd
        have bad : ¬ (0 ≤ a ∧ a < p) → Φ (.d (.tuple [.str "figure", .int (j : Nat)])) Ω2 := fun h => by
          rw [jdI_fig (fg_bad al ha h)] at k
          exact k
        ((repeat walk_at "zs"); (try conv => whnf))
        refine br_d (fun z => ?_) fun z => ?_
        · ((repeat walk_at "zs"); (try conv => whnf))
          refine br_d (fun z2 => ?_) fun z2 => ?_
          · ((repeat walk_at "zs"); (try conv => whnf))
            exact ⟨_, _, rfl, rfl, take_dig al ha ⟨z, z2⟩⟩
          · ((repeat walk_at "zs"); (try conv => whnf))
            exact bad fun h => z2 h.2
        · ((repeat walk_at "zs"); (try conv => whnf))
          exact bad fun h => z h.1
      · rintro ρ Ω2 ⟨r3, r4, rfl, rfl, al⟩
        rw [enD_len, li, List.take_length] at al
        have fn := fg_none (j := 0) al
        have vw : Vw is := ⟨by omega, fun f hf => by have := al f hf; omega⟩
        have bi := bvl_int pq vw.f
        have fin : is.getLast? ≠ some 0 → br (decide ((bvl p q is).2 = 1)) (Φ (.d .none) Ω2) (Φ (.d (.str "whole")) Ω2) := by
          intro nl
          refine br_d (fun z => ?_) fun z => ?_
          · obtain ⟨n, hn⟩ := bi.mp z
            rw [jdI_none fn nl hn] at k
            exact k
          · rw [jdI_whole fn nl fun n hn => z (bi.mpr ⟨n, hn⟩)] at k
            exact k
        ((repeat walk_at "zs"); (try conv => whnf))
        rw [ne_isD]
        by_cases em : is = []
        · subst em
          have nl : ([] : List Int).getLast? ≠ some 0 := by simp
          ((repeat walk_at "zs"); (try conv => whnf))
          refine .mk pq vw ?_
          ((repeat walk_at "zs"); (try conv => whnf))
          have f := fin nl
          exact f
        · rw [isE em]
          have la := List.getLast?_eq_some_getLast em
          have ea := last_isD la
          ((repeat walk_at "zs"); (try conv => whnf))
          refine br_d (fun z => ?_) fun z => ?_
          · rw [jdI_nought fn (by rw [la, z])] at k
            ((repeat walk_at "zs"); (try conv => whnf))
            exact k
          · ((repeat walk_at "zs"); (try conv => whnf))
            refine .mk pq vw ?_
            ((repeat walk_at "zs"); (try conv => whnf))
            exact fin fun h => z (by rw [la] at h; exact Option.some.inj h)
  | _ =>
    rw [jd_not (fun ds h => by cases h)] at k
    ((repeat walk_at "zs"); (try conv => whnf))
    exact k
theorem w_l_judged (Fr : Addr → Prop) (svs : List SV) (Ω : Om) (Φ : PhiE) (Ξ : XA) (h : c_l_judged svs Ω Φ Ξ) :
    a_l_judged Fr { nx := fun _ Ω => Φ (.d .none) Ω, rt := Φ } (startR N_l_judged svs) Ω := by
  obtain ⟨pq, ln, k⟩ := h
  rename_i p q d
  have q2 := pq.q2
  have qp := pq.qp
  have p10 := pq.p10
  cases d with
  | tuple ds =>
    have ln : ds.length ≤ 2000 := ln
    ((repeat walk_at "zs"); (try conv => whnf))
    refine br_d (fun gt => ?_) fun le => ?_
    · rw [jd_long (by omega)] at k
      ((repeat walk_at "zs"); (try conv => whnf))
      exact k
    have le : ds.length ≤ 1000 := by omega
    ((repeat walk_at "zs"); (try conv => whnf))
    refine lc_bools (fun d => !isI d) (fun Ω' => Ω' = Ω) (by omega) rfl (fun _ _ => trivial) (fun d Ω2 Y N hd e kk => ?_) fun Ω2 e => ?_
    · subst e
      cases d <;> (((repeat walk_at "zs"); (try conv => whnf)); exact kk _ rfl)
    have e' := e.symm
    subst e'
    clear e
    ((repeat walk_at "zs"); (try conv => whnf))
    refine ⟨_, trivial, rfl, ?_⟩
    rw [List.any_map, show (id ∘ fun d => !isI d) = fun d => !isI d from rfl, ← List.not_all_eq_any_not]
    cases f : ds.all isI with
    | false =>
      rw [jd_form (by show (decide (ds.length ≤ 1000) && ds.all isI) = false; rw [f, Bool.and_false])] at k
      ((repeat walk_at "zs"); (try conv => whnf))
      exact k
    | true =>
      obtain ⟨is, rfl⟩ : ∃ is, ds = isD is := ⟨_, isI_all f⟩
      have li := len_isD is
      have l1 : is.length ≤ 1000 := by omega
      rw [jd_is l1] at k
      ((repeat walk_at "zs"); (try conv => whnf))
      refine ⟨fun j ρ Ω' => ∃ (r3 r4 : Option SV), ρ = [some (T (isD is)), some (I p), some (I q), r3, r4, none, none] ∧ Ω' = Ω ∧ ∀ i ∈ is.take j, 0 ≤ i ∧ i < p, ⟨_, _, rfl, rfl, by simp⟩, fun _ _ _ _ => trivial, ?_, ?_⟩
      · rintro j y ρ Ω2 e ⟨r3, r4, rfl, rfl, al⟩
        obtain ⟨d, hd, rfl⟩ := enD_get e
        obtain ⟨a, ha, rfl⟩ := get_isD' hd
        have bad : ¬ (0 ≤ a ∧ a < p) → Φ (.d (.tuple [.str "figure", .int (j : Nat)])) Ω2 := fun h => by
          rw [jdI_fig (fg_bad al ha h)] at k
          exact k
        ((repeat walk_at "zs"); (try conv => whnf))
        refine br_d (fun z => ?_) fun z => ?_
        · ((repeat walk_at "zs"); (try conv => whnf))
          exact bad fun h => by omega
        · ((repeat walk_at "zs"); (try conv => whnf))
          refine br_d (fun z2 => ?_) fun z2 => ?_
          · ((repeat walk_at "zs"); (try conv => whnf))
            exact bad fun h => by omega
          · ((repeat walk_at "zs"); (try conv => whnf))
            exact ⟨_, _, rfl, rfl, take_dig al ha ⟨by omega, by omega⟩⟩
      · rintro ρ Ω2 ⟨r3, r4, rfl, rfl, al⟩
        rw [enD_len, li, List.take_length] at al
        have fn := fg_none (j := 0) al
        have cd : ∀ i, CDivW i q := fun i => cdiv (by omega) (Int.lt_trans qp (Int.lt_of_le_of_lt p10 (by decide)))
        have vw : Vw is := ⟨by omega, fun f hf => by have := al f hf; omega⟩
        have fin : is.getLast? ≠ some 0 → (aSeq (aAsg (aC (.d (.int 0))) (gN 5))
    (aSeq (aFor (aRevI (aCB (acLstOf none) (aCons (aVar 0) aNil))) (gN 6) (aSeq (aIf (aB (aBin arGt (aBin arMod (aCB acInt (aCons (aBin (arAdd none) (aBin arMul (aVar 1) (aVar 5)) (aVar 6)) aNil)) (aVar 2)) (aC (.d (.int 0))))) (aRet (aC (.d (.str "whole")))) aNx)
    (aAsg (aBin arDiv (aBin (arAdd none) (aBin arMul (aVar 1) (aVar 5)) (aVar 6)) (aVar 2)) (gN 5))))
    (aRet (aC (.d .none))))) { nx := fun _ Ω => Φ (.d .none) Ω, rt := Φ } [some (T (isD is)), some (I p), some (I q), r3, r4, none, none] Ω2 := by
          intro nl
          ((repeat walk_at "zs"); (try conv => whnf))
          rw [rev_isD]
          refine ⟨fun j ρ Ω' => ∃ (n : Int) (r6 : Option SV), ρ = [some (T (isD is)), some (I p), some (I q), r3, r4, some (I n), r6] ∧ Ω' = Ω2 ∧ 0 ≤ n ∧ Wn p q (is.drop (is.length - j)) n ∧ (is.drop (is.length - j)).length = j, ⟨0, _, rfl, rfl, by decide, by rw [Nat.sub_zero, List.drop_length]; rfl, by rw [Nat.sub_zero, List.drop_length]; rfl⟩, fun _ _ _ _ => trivial, ?_, ?_⟩
          · rintro j y ρ Ω3 e ⟨n, r6, rfl, rfl, n0, wn, lj⟩
            obtain ⟨f, hf, rfl⟩ := get_isD e
            obtain ⟨ed, lt⟩ := drop_rev hf
            have df := al f (List.mem_reverse.mp (List.mem_of_getElem? hf))
            obtain ⟨v0, v1, w0, w1⟩ := (vw.drop (is.length - j)).b pq
            have eA := wn_A wn
            have nB : n ≤ B9 := by
              have k1 := Int.mul_le_mul_of_nonneg_left w0 n0
              rw [← eA] at k1
              omega
            have cm : CMulX p n := b9_mul (by omega) (b9_sm (Int.le_trans p10 (by decide))) n0 nB
            have pn := Int.mul_nonneg (show 0 ≤ p by omega) n0
            ((repeat walk_at "zs"); (try conv => whnf))
            refine br_d (fun z => ?_) fun z => ?_
            · have no : ∀ m, ¬ Wn p q is m := fun m hm => by
                have sp : is = is.take (is.length - (j + 1)) ++ f :: is.drop (is.length - j) := by rw [← ed, List.take_append_drop]
                rw [sp] at hm
                obtain ⟨m2, R, h1, h2⟩ := wn_tail hm
                have := wn_uniq pq h1 wn
                subst this
                have e3 : (p * R + f) % q = 0 := by rw [Int.add_comm, ← h2]; exact Int.mul_emod_right ..
                omega
              rw [jdI_whole fn nl no] at k
              ((repeat walk_at "zs"); (try conv => whnf))
              exact k
            · have m0 := Int.emod_nonneg (p * n + f) (show q ≠ 0 by omega)
              have de := Int.mul_ediv_add_emod (p * n + f) q
              ((repeat walk_at "zs"); (try conv => whnf))
              refine ⟨_, _, rfl, rfl, Int.ediv_nonneg (by omega) (by omega), ?_, by rw [ed, List.length_cons, lj]⟩
              rw [ed]
              exact ⟨n, wn, by omega⟩
          · rintro ρ Ω3 ⟨n, r6, rfl, rfl, n0, wn, lj⟩
            rw [List.length_map, len_isD, List.length_reverse, Nat.sub_self, List.drop_zero] at wn
            rw [jdI_none fn nl wn] at k
            ((repeat walk_at "zs"); (try conv => whnf))
            exact k
        ((repeat walk_at "zs"); (try conv => whnf))
        rw [ne_isD]
        by_cases em : is = []
        · subst em
          rw [show ([] : List Int).isEmpty = true from rfl]
          refine br_T ?_
          conv => whnf
          refine br_F ?_
          exact fin (by simp)
        · rw [isE em]
          have la := List.getLast?_eq_some_getLast em
          have ea := last_isD la
          ((repeat walk_at "zs"); (try conv => whnf))
          refine br_d (fun z => ?_) fun z => ?_
          · rw [jdI_nought fn (by rw [la, z])] at k
            ((repeat walk_at "zs"); (try conv => whnf))
            exact k
          · exact fin fun h => z (by rw [la] at h; exact Option.some.inj h)
  | _ =>
    rw [jd_not (fun ds h => by cases h)] at k
    ((repeat walk_at "zs"); (try conv => whnf))
    exact k
end
section
local macro_rules | `(tactic| walk_at "z1") => `(tactic| ((try dsimp only); first | done | exact True.intro | exact Nat.le_of_ble_eq_true rfl | (with_reducible assumption) | rfl | omega | (exact ⟨by omega, by omega⟩) | (exact cmul (by omega) (by omega) (by omega) (by omega)) | (exact cdiv (by omega) (by omega)) | (exact Or.inl ⟨by omega, by omega⟩) | (exact Or.inr ⟨by omega, by omega⟩) | decide | assumption | (simp only [List.length_map, List.length_range, List.length_append, List.length_cons, List.length_nil, List.length_replicate, len_repD]; omega)))
local macro_rules | `(tactic| walk_at "zs") => `(tactic| ((conv => whnf); first | with_reducible refine br_T ?_ | with_reducible refine br_F ?_ | with_reducible refine br_d1 rfl ?_ | with_reducible refine br_n ?_ | ((with_reducible refine br_d1 ?_ ?_); (focus omega)) | ((with_reducible refine br_d0 ?_ ?_); (focus omega)) | ((fail_if_success (fail_if_success (with_reducible refine br.mk ?_ ?_))); (fail_if_success with_reducible refine br_d ?_ ?_); first | refine br_T ?_ | refine br_F ?_) | ((fail_if_success (fail_if_success (with_reducible refine And.intro ?_ ?_))); first | refine And.intro (by walk_at "z1") ?_ | refine ⟨⟨_, _, .here, trivial⟩, ?_⟩) | ((fail_if_success (fail_if_success (with_reducible refine Exists.intro ?_ ?_))); first | refine ⟨_, _, .here, ?_⟩ | refine ⟨_, true, rfl, rfl, ?_⟩ | refine ⟨_, false, rfl, rfl, ?_⟩ | refine ⟨_, (by rfl : atI _ _ = some _), ?_⟩ | refine ⟨_, (by assumption : atI _ _ = some _), ?_⟩)))
theorem wn_rev_step {p q : Int} (pq : PQ p q) {rows : List Int} {n d : Int} (h : Wn p q rows.reverse n) (hd : (p * n + d) % q = 0) : Wn p q (rows ++ [d]).reverse ((p * n + d) / q) := by
  rw [List.reverse_append]
  have de := Int.mul_ediv_add_emod (p * n + d) q
  exact ⟨n, h, by omega⟩
theorem w_l_grown (Fr : Addr → Prop) (svs : List SV) (Ω : Om) (Φ : PhiE) (Ξ : XA) (h : c_l_grown svs Ω Φ Ξ) :
    a_l_grown Fr { nx := fun _ Ω => Φ (.d .none) Ω, rt := Φ } (startR N_l_grown svs) Ω := by
  obtain ⟨hB, pq, m0, m1, k⟩ := h
  rename_i x L R p q m
  have q2 := pq.q2
  have qp := pq.qp
  have p10 := pq.p10
  have cdq : ∀ i, CDivW i q := fun i => cdiv (by omega) (Int.lt_trans qp (Int.lt_of_le_of_lt p10 (by decide)))
  have s1 : (100000 : Nat) ≤ sizeLine := by decide
  ((repeat walk_at "zs"); (try conv => whnf))
  refine lc_relI (fun _ t => 0 ≤ t ∧ t < 5) (fun Ω' => Bag x L R Ω') (by rw [rgS_len]; decide) hB (fun _ _ => trivial) (fun i y Ω Y N e hB kk => ?_) fun ts Ω hn hP hB => ?_
  · ((repeat walk_at "zs"); (try conv => whnf))
    refine .mk hB (by decide) (bel (by decide) (by decide)) fun r Ω r0 r1 hB => ?_
    exact kk _ _ ⟨r0, r1⟩ hB
  rw [rgS_len] at hn
  have hn : ts.length = 23 := hn
  have lt := len_isD ts
  ((repeat walk_at "zs"); (try conv => whnf))
  intro a fa
  ((repeat walk_at "zs"); (try conv => whnf))
  refine ⟨fun j ρ Ω' => ∃ (rows : List Int) (n : Int) (r7 r8 : Option SV), ρ = [some x, some (I p), some (I q), some (I m), some (.d (.list (isD ts))), some (.r (.ref a)), some (I n), r7, r8, none] ∧ rows.length = j ∧ (∀ i ∈ rows, 0 ≤ i ∧ i < p) ∧ (∀ d, rows[0]? = some d → d ≠ 0) ∧ Wn p q rows.reverse n ∧ 0 ≤ n ∧ Bag x ((a, .lst (isD rows)) :: L) R Ω', ⟨[], 0, _, _, rfl, rfl, by simp, by simp, rfl, by decide, hB.push _⟩, fun _ _ _ _ => trivial, ?_, ?_⟩
  · clear hB
    rintro j y ρ Ω e ⟨rows, n, r7, r8, rfl, rl, al, fst, wn, n0, hB⟩
    obtain ⟨rfl, lj⟩ := rgS_get e
    obtain ⟨Ω2, rfl, hC⟩ := hB.pop
    clear hB
    have vw : Vw rows.reverse := ⟨by rw [List.length_reverse]; omega, fun f hf => by have := al f (List.mem_reverse.mp hf); omega⟩
    obtain ⟨v0, v1, w0, w1⟩ := vw.b pq
    have eA := wn_A wn
    have nB : n ≤ B9 := by
      have k1 := Int.mul_le_mul_of_nonneg_left w0 n0
      rw [← eA] at k1
      omega
    have cm : CMulX p n := b9_mul (by omega) (b9_sm (Int.le_trans p10 (by decide))) n0 nB
    have z0 := Int.emod_nonneg (0 - p * n) (show q ≠ 0 by omega)
    have z1 := Int.emod_lt_of_pos (0 - p * n) (show 0 < q by omega)
    have zd := Int.mul_ediv_add_emod (0 - p * n) q
    have lr : (isD rows).length = j := by rw [len_isD, rl]
    have jm : (0 + (j : Int)) % 23 < 23 := Int.emod_lt_of_pos _ (by decide)
    have jm0 : 0 ≤ (0 + (j : Int)) % 23 := Int.emod_nonneg _ (by decide)
    have lti : ((0 + (j : Int)) % 23).toNat < ts.length := by omega
    have et : atI (isD ts) ((0 + (j : Int)) % 23) = some (.int ts[((0 + (j : Int)) % 23).toNat]) := at_isD jm0 (List.getElem?_eq_getElem lti)
    have tb := hP _ _ (List.getElem?_eq_getElem lti)
    generalize ts[((0 + (j : Int)) % 23).toNat] = t at et tb
    generalize hj : (0 + (j : Int)) = J at *
    ((repeat walk_at "zs"); (try conv => whnf))
    refine ⟨fun ρ' Ω' => ∃ l : Int, ρ' = [some x, some (I p), some (I q), some (I m), some (.d (.list (isD ts))), some (.r (.ref a)), some (I n), some (I J), some (I l), none] ∧ Ω' = (a, .lst (isD rows)) :: Ω2 ∧ 0 ≤ l ∧ l < p ∧ (j = 0 → l ≠ 0) ∧ (p * n + l) % q = 0, ?_, ?_⟩
    · ((repeat walk_at "zs"); (try conv => whnf))
      refine br_d (fun z => ?_) fun z => ?_
      · ((repeat walk_at "zs"); (try conv => whnf))
        have : n = 0 := by
          have : rows = [] := List.length_eq_zero_iff.mp (by omega)
          subst this
          exact wn
        subst this
        exact ⟨q, rfl, rfl, by omega, by omega, fun _ => by omega, by rw [Int.mul_zero, Int.zero_add]; exact Int.emod_self⟩
      · ((repeat walk_at "zs"); (try conv => whnf))
        refine ⟨(0 - p * n) % q, rfl, rfl, z0, by omega, fun h => by omega, ?_⟩
        have : p * n + (0 - p * n) % q = q * (-((0 - p * n) / q)) := by rw [Int.mul_neg]; omega
        rw [this]
        exact Int.mul_emod_right ..
    · rintro ρ' Ω' ⟨l, rfl, rfl, l0, l1, lj0, lm⟩
      have e0 := Int.mul_ediv_add_emod (p - 1 - l) q
      have r0 := Int.emod_nonneg (p - 1 - l) (show q ≠ 0 by omega)
      have c0 : 0 ≤ (p - 1 - l) / q := Int.ediv_nonneg (by omega) (by omega)
      have c1 : (p - 1 - l) / q ≤ p - 1 - l := Int.ediv_le_self _ (by omega)
      have u0 := Int.emod_nonneg t (show (p - 1 - l) / q + 1 ≠ 0 by omega)
      have u1 := Int.emod_lt_of_pos t (show 0 < (p - 1 - l) / q + 1 by omega)
      generalize hc : (p - 1 - l) / q = c at *
      have qc : q * (t % (c + 1)) ≤ q * c := Int.mul_le_mul_of_nonneg_left (by omega) (by omega)
      have qu := Int.mul_nonneg (show 0 ≤ q by omega) u0
      have cu : CMulX q (t % (c + 1)) := cmul (by omega) (by omega) (by omega) (by omega)
      have sz : (isD rows).length < sizeLine := by omega
      have la : atI (isD (rows ++ [l + q * (t % (c + 1))])) (-1) = some (.int (l + q * (t % (c + 1)))) := last_isD (by simp)
      have lm2 : (p * n + (l + q * (t % (c + 1)))) % q = 0 := by rw [← Int.add_assoc, Int.add_mul_emod_self_left]; exact lm
      have pn := Int.mul_nonneg (show 0 ≤ p by omega) n0
      ((repeat walk_at "zs"); (try conv => whnf))
      rw [hc]
      refine ⟨cu, ?_⟩
      ((repeat walk_at "zs"); (try conv => whnf))
      have ai : isD rows ++ [PyData.int (l + q * (t % (c + 1)))] = isD (rows ++ [l + q * (t % (c + 1))]) := app_isD rows [_]
      rw [ai]
      refine ⟨_, la, ?_⟩
      ((repeat walk_at "zs"); (try conv => whnf))
      refine ⟨rows ++ [l + q * (t % (c + 1))], _, _, _, rfl, by rw [List.length_append, rl]; rfl, fun i hi => ?_, fun d hd => ?_, wn_rev_step pq wn lm2, Int.ediv_nonneg (by omega) (by omega), hC.push _⟩
      · rcases List.mem_append.mp hi with hi | hi
        · exact al i hi
        · obtain rfl := List.mem_singleton.mp hi
          omega
      · cases rows with
        | nil =>
          have hd : some (l + q * (t % (c + 1))) = some d := hd
          cases hd
          have : j = 0 := by simpa using rl.symm
          have := lj0 this
          omega
        | cons b r => exact fst d (by simpa using hd)
  · clear hB
    rintro ρ Ω ⟨rows, n, r7, r8, rfl, rl, al, fst, wn, n0, hB⟩
    rw [rgS_len] at rl
    obtain ⟨Ω2, rfl, hC⟩ := hB.pop
    ((repeat walk_at "zs"); (try conv => whnf))
    rw [rev_isD]
    refine ⟨_, .cons _ (.refl _), k rows.reverse _ ⟨fun i hi => al i (List.mem_reverse.mp hi), fun h => ?_, n, wn⟩ (by rw [List.length_reverse]; omega) hC⟩
    rw [List.getLast?_reverse] at h
    cases rows with
    | nil => simp at h
    | cons b r => exact fst b rfl (by simpa using h)
end
section
local macro_rules | `(tactic| walk_at "z1") => `(tactic| ((try dsimp only); first | done | exact True.intro | exact Nat.le_of_ble_eq_true rfl | (with_reducible assumption) | rfl | omega | (exact ⟨by omega, by omega⟩) | (exact cmul (by omega) (by omega) (by omega) (by omega)) | (exact cdiv (by omega) (by omega)) | (exact Or.inl ⟨by omega, by omega⟩) | (exact Or.inr ⟨by omega, by omega⟩) | decide | assumption | (simp only [List.length_map, List.length_range, List.length_append, List.length_cons, List.length_nil, List.length_replicate, len_repD]; omega)))
local macro_rules | `(tactic| walk_at "zs") => `(tactic| ((conv => whnf); first | with_reducible refine br_T ?_ | with_reducible refine br_F ?_ | with_reducible refine br_d1 rfl ?_ | with_reducible refine br_n ?_ | ((with_reducible refine br_d1 ?_ ?_); (focus omega)) | ((with_reducible refine br_d0 ?_ ?_); (focus omega)) | ((fail_if_success (fail_if_success (with_reducible refine br.mk ?_ ?_))); (fail_if_success with_reducible refine br_d ?_ ?_); first | refine br_T ?_ | refine br_F ?_) | ((fail_if_success (fail_if_success (with_reducible refine And.intro ?_ ?_))); first | refine And.intro (by walk_at "z1") ?_ | refine ⟨⟨_, _, .here, trivial⟩, ?_⟩) | ((fail_if_success (fail_if_success (with_reducible refine Exists.intro ?_ ?_))); first | refine ⟨_, _, .here, ?_⟩ | refine ⟨_, true, rfl, rfl, ?_⟩ | refine ⟨_, false, rfl, rfl, ?_⟩ | refine ⟨_, (by rfl : atI _ _ = some _), ?_⟩ | refine ⟨_, (by assumption : atI _ _ = some _), ?_⟩)))
theorem w_l_are_numbers_right (Fr : Addr → Prop) (svs : List SV) (Ω : Om) (Φ : PhiE) (Ξ : XA) (h : c_l_are_numbers_right svs Ω Φ Ξ) :
    a_l_are_numbers_right Fr { nx := fun _ Ω => Φ (.d .none) Ω, rt := Φ } (startR N_l_are_numbers_right svs) Ω := by
  obtain ⟨hB, pq, rs, k⟩ := h
  rename_i x L R p q r s
  have fact : ∀ {p q n : Int}, PQ p q → 0 ≤ n → n ≤ 10 ^ 40 → Vw (bfW p q n) ∧ bvl p q (bfW p q n) = (n, 1) ∧ jd p q (T0 (bfW p q n)) = .none ∧ crd p q (bfW p q n) = bfW p q n ∧ Sb (T0 (bfW p q n)) ∧ lenOk (T0 (bfW p q n)) := by
    intro p q n pq n0 n1
    have gn := bf_gn pq n0
    have ln := bf_len1000 pq n0 n1
    have vw := gn.vw pq (by omega)
    have wn := bf_wn pq n0
    exact ⟨vw, bvl_n pq wn n0, gn.jd ln, crd_bf pq vw.nn wn, sb_gn pq gn (by omega), by show (isD _).length ≤ 2000; rw [len_isD]; omega⟩
  ((repeat walk_at "zs"); (try conv => whnf))
  refine .mk hB (by decide) (bel (by decide) (by decide)) fun n1 Ω n10 n11 hB => ?_
  ((repeat walk_at "zs"); (try conv => whnf))
  refine .mk hB fun n2 Ω n20 n21 hB => ?_
  ((repeat walk_at "zs"); (try conv => whnf))
  refine .mk hB fun n3 Ω n30 n31 hB => ?_
  ((repeat walk_at "zs"); (try conv => whnf))
  refine ⟨fun j ρ Ω' => ∃ (n : Int) (r5 : PyData), ρ = [some x, some (I p), some (I q), some (.d (prd (r, s))), some (I n), some (.d r5)] ∧ 0 ≤ n ∧ n ≤ 10 ^ 31 ∧ (j = 4 → r5 = T0 (bfW p q n)) ∧ Bag x L R Ω', ⟨0, _, rfl, by decide, by decide, fun h => absurd h (by decide), hB⟩, fun _ _ _ _ => trivial, ?_, ?_⟩
  · clear hB
    rintro j y ρ Ω e ⟨n, r5, rfl, n0, n9, -, hB⟩
    obtain ⟨m, rfl, m0, m9⟩ : ∃ m : Int, y = I m ∧ 0 ≤ m ∧ m ≤ 10 ^ 31 := by
      have := List.mem_of_getElem? e
      simp only [List.map_cons, List.map_nil, List.mem_cons, List.not_mem_nil, or_false] at this
      rcases this with rfl | rfl | rfl | rfl
      · exact ⟨_, rfl, by decide, by decide⟩
      · exact ⟨_, rfl, by omega, by omega⟩
      · exact ⟨_, rfl, by omega, by omega⟩
      · exact ⟨_, rfl, by omega, by omega⟩
    obtain ⟨f1, f2, f3, f4, f5, f6⟩ := fact pq m0 (show m ≤ 10 ^ 40 by omega)
    ((repeat walk_at "zs"); (try conv => whnf))
    refine .mk pq m0 (by omega) ?_
    ((repeat walk_at "zs"); (try conv => whnf))
    refine .mk pq m0 (by omega) ?_
    ((repeat walk_at "zs"); (try conv => whnf))
    refine .mk f5 ?_
    ((repeat walk_at "zs"); (try conv => whnf))
    refine .mk pq f1 ?_
    rw [f2]
    ((repeat walk_at "zs"); (try conv => whnf))
    refine .mk (sb_n1 m0 (by omega)) ?_
    ((repeat walk_at "zs"); (try conv => whnf))
    refine .mk pq f6 ?_
    rw [f3]
    ((repeat walk_at "zs"); (try conv => whnf))
    refine .mk pq f1 ?_
    rw [f4]
    ((repeat walk_at "zs"); (try conv => whnf))
    refine .mk f5 ?_
    ((repeat walk_at "zs"); (try conv => whnf))
    exact ⟨_, _, rfl, m0, m9, fun _ => rfl, hB⟩
  · clear hB
    rintro ρ Ω ⟨n, r5, rfl, n0, n9, d5, hB⟩
    obtain rfl := d5 rfl
    obtain ⟨f1, f2, f3, f4, f5, f6⟩ := fact pq n0 (show n ≤ 10 ^ 40 by omega)
    obtain ⟨g1, g2, g3, g4, g5, g6⟩ := fact rs n0 (show n ≤ 10 ^ 40 by omega)
    ((repeat walk_at "zs"); (try conv => whnf))
    refine .mk rs n0 (by omega) ?_
    ((repeat walk_at "zs"); (try conv => whnf))
    refine .mk rs n0 (by omega) ?_
    ((repeat walk_at "zs"); (try conv => whnf))
    refine .mk g5 ?_
    ((repeat walk_at "zs"); (try conv => whnf))
    refine .mk pq f1 ?_
    rw [f2]
    ((repeat walk_at "zs"); (try conv => whnf))
    refine .mk (sb_n1 n0 (by omega)) ?_
    ((repeat walk_at "zs"); (try conv => whnf))
    refine .mk pq n0 (by omega) ?_
    ((repeat walk_at "zs"); (try conv => whnf))
    refine .mk f5 ?_
    exact k _ hB
set_option maxHeartbeats 40000000 in
theorem w_l_are_sums_right (Fr : Addr → Prop) (svs : List SV) (Ω : Om) (Φ : PhiE) (Ξ : XA) (h : c_l_are_sums_right svs Ω Φ Ξ) :
    a_l_are_sums_right Fr { nx := fun _ Ω => Φ (.d .none) Ω, rt := Φ } (startR N_l_are_sums_right svs) Ω := by
  obtain ⟨hB, pq, k⟩ := h
  rename_i x L R p q
  have q2 := pq.q2
  have qp := pq.qp
  have p10 := pq.p10
  have dm0 : 1 ≤ 1000 / (p - 1) := Int.le_ediv_of_mul_le (by omega) (by omega)
  have dm1 : 1000 / (p - 1) ≤ 1000 := Int.ediv_le_self _ (by decide)
  have cd : CDivW 1000 (p - 1) := cdiv (by omega) (by omega)
  have s1 : (100000 : Nat) ≤ sizeLine := by decide
  ((repeat walk_at "zs"); (try conv => whnf))
  refine .mk hB fun a Ω a0 a1 hB => ?_
  ((repeat walk_at "zs"); (try conv => whnf))
  refine .mk hB fun b Ω b0 b1 hB => ?_
  ((repeat walk_at "zs"); (try conv => whnf))
  refine .mk pq a0 (by omega) ?_
  ((repeat walk_at "zs"); (try conv => whnf))
  refine .mk pq b0 (by omega) ?_
  ((repeat walk_at "zs"); (try conv => whnf))
  have ga := bf_gn pq a0
  have gb := bf_gn pq b0
  have la := bf_len1000 pq a0 (show a ≤ 10 ^ 40 by omega)
  have lb := bf_len1000 pq b0 (show b ≤ 10 ^ 40 by omega)
  have wa := bf_wn pq a0
  have wb := bf_wn pq b0
  have lia := len_isD (bfW p q a)
  have lib := len_isD (bfW p q b)
  have pa : (bfW p q a) = bfW p q a := rfl
  obtain ⟨u, hu⟩ : ∃ u, u = bfW p q a := ⟨_, rfl⟩
  obtain ⟨v, hv⟩ : ∃ v, v = bfW p q b := ⟨_, rfl⟩
  rw [← hu] at ga la wa lia ⊢
  rw [← hv] at gb lb wb lib ⊢
  have row : isD u ++ repD [PyData.int 0] (((isD v).length : Int) - (isD u).length) = isD (fill (max u.length v.length) u) := by
    rw [fill_isD, lia, lib, show (((v.length : Nat) : Int) - (u.length : Nat)).toNat = max u.length v.length - u.length by omega]; rfl
  have fl : (fill (max u.length v.length) u).length = max u.length v.length := fill_len (Nat.le_max_left ..)
  have lrep : (repD [PyData.int 0] (((isD v).length : Int) - (isD u).length)).length ≤ 1000 := by rw [len_repD]; simp only [List.length_cons, List.length_nil]; omega
  refine ⟨by omega, by omega, by simp only [List.length_cons, List.length_nil]; omega, ?_⟩
  have lf := len_isD (fill (max u.length v.length) u)
  ((repeat walk_at "zs"); (try conv => whnf))
  rw [row]
  refine lc_at (fun i => PyData.int ((sumL u v).getD i 0)) (fun Ω' => Bag x L R Ω') (by rw [enD_len]; omega) hB (fun _ _ => trivial) (fun i y Ω Y N e hB kk => ?_) fun Ω hB => ?_
  · obtain ⟨d, hd, rfl⟩ := enD_get e
    obtain ⟨z, hz, rfl⟩ := get_isD' hd
    have lt := (List.getElem?_eq_some_iff.mp hz).1
    rw [fl] at lt
    have ez := fill_get (u := u) lt (Nat.le_max_left ..)
    rw [hz] at ez
    have ez : z = u.getD i 0 := Option.some.inj ez
    have es := sumL_get (u := u) (v := v) lt
    have eg : (sumL u v).getD i 0 = u.getD i 0 + v.getD i 0 := by rw [List.getD_eq_getElem?_getD, es]; rfl
    ((repeat walk_at "zs"); (try conv => whnf))
    refine br_d (fun w => ?_) fun w => ?_
    · have lw : i < v.length := by omega
      have ev : atI (isD v) (i : Int) = some (.int v[i]) := at_isD (by omega) (by rw [Int.toNat_natCast]; exact List.getElem?_eq_getElem lw)
      have gv : v.getD i 0 = v[i] := by rw [List.getD_eq_getElem?_getD, List.getElem?_eq_getElem lw]; rfl
      ((repeat walk_at "zs"); (try conv => whnf))
      rw [eg, ← ez, gv] at kk
      exact kk _ hB
    · have gv : v.getD i 0 = 0 := by rw [List.getD_eq_getElem?_getD, List.getElem?_eq_none (by omega)]; rfl
      ((repeat walk_at "zs"); (try conv => whnf))
      rw [eg, ← ez, gv] at kk
      exact kk _ hB
  rw [enD_len, lf, rng_getD (sumL u v) _ (by rw [sumL_len, fl])]
  have sw := sumL_wn wa wb
  have sv := sumL_vw pq ga gb la lb
  have sc := crd_bf pq sv.nn sw
  have st := trm_id (sumL_last ga gb)
  have sbw : Sb (T0 (bfW p q (a + b))) := sb_gn pq (bf_gn pq (by omega)) (by have := bf_len1000 pq (show 0 ≤ a + b by omega) (by omega); omega)
  have sb1 := bvl_n pq sw (by omega)
  clear row fl lrep lf lia ga wa cd pa
  try simp only [startR, List.map_cons, List.map_nil, List.cons_append, List.nil_append, List.set_cons_succ, List.set_cons_zero, List.length_cons, List.length_nil, List.replicate_succ, List.replicate_zero, Nat.reduceAdd, Nat.reduceSub]
  ((repeat walk_at "zs"); (try conv => whnf))
  refine .mk pq (by omega) (by omega) ?_
  ((repeat walk_at "zs"); (try conv => whnf))
  refine .mk pq sv ?_
  rw [sc]
  ((repeat walk_at "zs"); (try conv => whnf))
  refine .mk sbw ?_
  ((repeat walk_at "zs"); (try conv => whnf))
  refine .mk pq sv ?_
  rw [sb1]
  ((repeat walk_at "zs"); (try conv => whnf))
  refine .mk (sb_n1 (n := a + b) (by omega) (by omega)) ?_
  ((repeat walk_at "zs"); (try conv => whnf))
  refine .mk pq a0 (by omega) ?_
  rw [← hu]
  ((repeat walk_at "zs"); (try conv => whnf))
  refine .mk pq b0 (by omega) ?_
  rw [← hv]
  ((repeat walk_at "zs"); (try conv => whnf))
  refine .mk la lb ?_
  rw [st]
  ((repeat walk_at "zs"); (try conv => whnf))
  refine .mk (sb_vw sv) ?_
  ((repeat walk_at "zs"); (try conv => whnf))
  refine .mk pq sv ?_
  rw [sc]
  ((repeat walk_at "zs"); (try conv => whnf))
  refine .mk sbw ?_
  ((repeat walk_at "zs"); (try conv => whnf))
  clear sw sv sc st sbw sb1 hu la a1
  refine .mk hB (by show 0 < 1000 / (p - 1) + 1; omega) (bel (by show 0 < 1000 / (p - 1) + 1; omega) (by show 1000 / (p - 1) + 1 < _; omega)) fun r Ω r0 r1 hB => ?_
  have r1 : r < 1000 / (p - 1) + 1 := r1
  try simp only [startR, List.map_cons, List.map_nil, List.cons_append, List.nil_append, List.set_cons_succ, List.set_cons_zero, List.length_cons, List.length_nil, List.replicate_succ, List.replicate_zero, Nat.reduceAdd, Nat.reduceSub]
  ((repeat walk_at "zs"); (try conv => whnf))
  refine .mk hB (by simp) (by simp) fun d hd Ω hB => ?_
  obtain ⟨t, rfl, t0, t1⟩ : ∃ t : Int, d = .int t ∧ 0 ≤ t ∧ t ≤ 1000 := by
    simp only [List.mem_cons, List.not_mem_nil, or_false] at hd
    rcases hd with rfl | rfl | rfl | rfl | rfl | rfl
    all_goals exact ⟨_, rfl, by omega, by omega⟩
  have tb0 := Int.mul_nonneg t0 b0
  have tb1 : t * b ≤ 1000 * 10 ^ 31 := Int.mul_le_mul t1 b1 b0 (by decide)
  have ctb : CMulX t b := cmul (by omega) (by omega) (by omega) (by omega)
  have mv := mul_vw gb.d p10 (by omega) t0 t1
  have mw := wn_mul (t := t) wb
  have mc := crd_bf pq mv.nn mw
  have tw := wn_trm (by omega : q ≠ 0) mw
  have tv := trm_vw mv
  have tc := crd_bf pq tv.nn tw
  have t1' := bvl_n pq tw tb0
  clear r0 r1 hd
  try simp only [startR, List.map_cons, List.map_nil, List.cons_append, List.nil_append, List.set_cons_succ, List.set_cons_zero, List.length_cons, List.length_nil, List.replicate_succ, List.replicate_zero, Nat.reduceAdd, Nat.reduceSub]
  have sbw2 : Sb (T0 (bfW p q (t * b))) := sb_gn pq (bf_gn pq tb0) (by have := bf_len1000 pq tb0 (show t * b ≤ 10 ^ 40 by omega); omega)
  ((repeat walk_at "zs"); (try conv => whnf))
  refine .mk pq tb0 (by show t * b ≤ _; omega) ?_
  ((repeat walk_at "zs"); (try conv => whnf))
  refine lc_ints (fun f => t * f) (fun Ω' => Bag x L R Ω') (by omega) hB (fun _ _ => trivial) (fun d Ω Y N hd hB kk => ?_) fun Ω hB => ?_
  · have := gb.d d hd
    have cm : CMulX t d := cmul (by omega) (by omega) (by omega) (by omega)
    ((repeat walk_at "zs"); (try conv => whnf))
    exact kk _ hB
  ((repeat walk_at "zs"); (try conv => whnf))
  refine .mk pq mv ?_
  rw [mc]
  ((repeat walk_at "zs"); (try conv => whnf))
  refine .mk sbw2 ?_
  ((repeat walk_at "zs"); (try conv => whnf))
  refine .mk pq b0 (by omega) ?_
  rw [← hv]
  ((repeat walk_at "zs"); (try conv => whnf))
  refine .mk lb (fun f hf => by have := gb.d f hf; omega) t0 t1 ?_
  ((repeat walk_at "zs"); (try conv => whnf))
  refine .mk pq tv ?_
  rw [tc]
  ((repeat walk_at "zs"); (try conv => whnf))
  refine .mk sbw2 ?_
  ((repeat walk_at "zs"); (try conv => whnf))
  refine .mk pq tv ?_
  rw [t1']
  ((repeat walk_at "zs"); (try conv => whnf))
  refine .mk (sb_n1 tb0 (by omega)) ?_
  exact k _ hB
end
section
local macro_rules | `(tactic| walk_at "z1") => `(tactic| ((try dsimp only); first | done | exact True.intro | exact Nat.le_of_ble_eq_true rfl | (with_reducible assumption) | rfl | omega | (exact ⟨by omega, by omega⟩) | (exact cmul (by omega) (by omega) (by omega) (by omega)) | (exact cdiv (by omega) (by omega)) | (exact Or.inl ⟨by omega, by omega⟩) | (exact Or.inr ⟨by omega, by omega⟩) | decide | assumption | (simp only [List.length_map, List.length_range, List.length_append, List.length_cons, List.length_nil, List.length_replicate, len_repD]; omega)))
local macro_rules | `(tactic| walk_at "zs") => `(tactic| ((conv => whnf); first | with_reducible refine br_T ?_ | with_reducible refine br_F ?_ | with_reducible refine br_d1 rfl ?_ | with_reducible refine br_n ?_ | ((with_reducible refine br_d1 ?_ ?_); (focus omega)) | ((with_reducible refine br_d0 ?_ ?_); (focus omega)) | ((fail_if_success (fail_if_success (with_reducible refine br.mk ?_ ?_))); (fail_if_success with_reducible refine br_d ?_ ?_); first | refine br_T ?_ | refine br_F ?_) | ((fail_if_success (fail_if_success (with_reducible refine And.intro ?_ ?_))); first | refine And.intro (by walk_at "z1") ?_ | refine ⟨⟨_, _, .here, trivial⟩, ?_⟩) | ((fail_if_success (fail_if_success (with_reducible refine Exists.intro ?_ ?_))); first | refine ⟨_, _, .here, ?_⟩ | refine ⟨_, true, rfl, rfl, ?_⟩ | refine ⟨_, false, rfl, rfl, ?_⟩ | refine ⟨_, (by rfl : atI _ _ = some _), ?_⟩ | refine ⟨_, (by assumption : atI _ _ = some _), ?_⟩)))
theorem w_l_are_products_right (Fr : Addr → Prop) (svs : List SV) (Ω : Om) (Φ : PhiE) (Ξ : XA) (h : c_l_are_products_right svs Ω Φ Ξ) :
    a_l_are_products_right Fr { nx := fun _ Ω => Φ (.d .none) Ω, rt := Φ } (startR N_l_are_products_right svs) Ω := by
  obtain ⟨hB, pq, k⟩ := h
  rename_i x L R p q
  have q2 := pq.q2
  have qp := pq.qp
  have p10 := pq.p10
  have p8 : (10 : Int) ^ Int.toNat 8 = 10 ^ 8 := by decide +kernel
  have s1 : (100000 : Nat) ≤ sizeLine := by decide
  ((repeat walk_at "zs"); (try conv => whnf))
  refine .mk hB (by decide) (bel (by decide) (by decide)) fun one Ω o0 o1 hB => ?_
  ((repeat walk_at "zs"); (try conv => whnf))
  refine .mk hB (by decide) (by decide) fun oth Ω t0 t1 hB => ?_
  have t1 : oth < 10 ^ 8 := t1
  ((repeat walk_at "zs"); (try conv => whnf))
  refine ⟨fun y Ω' => ∃ t : Int, y = I t ∧ 0 ≤ t ∧ t ≤ 10 ^ 8 ∧ Bag x L R Ω', ?_, ?_⟩
  · refine .mk hB (by decide) (bel (by decide) (by decide)) fun r Ω r0 r1 hB => ?_
    ((repeat walk_at "zs"); (try conv => whnf))
    refine br_d (fun z => ?_) fun z => ?_
    · exact ⟨_, rfl, t0, by omega, hB⟩
    · ((repeat walk_at "zs"); (try conv => whnf))
      exact ⟨_, rfl, by omega, by omega, hB⟩
  clear hB t0 t1
  rintro y Ω ⟨oth, rfl, t0, t1, hB⟩
  ((((repeat walk_at "zs"); (try conv => whnf)); (try simp only [startR, List.map_cons, List.map_nil, List.cons_append, List.nil_append, List.set_cons_succ, List.set_cons_zero, List.length_cons, List.length_nil, List.replicate_succ, List.replicate_zero, Nat.reduceAdd, Nat.reduceSub])))
  refine .mk pq o0 (by omega) ?_
  ((((repeat walk_at "zs"); (try conv => whnf)); (try simp only [startR, List.map_cons, List.map_nil, List.cons_append, List.nil_append, List.set_cons_succ, List.set_cons_zero, List.length_cons, List.length_nil, List.replicate_succ, List.replicate_zero, Nat.reduceAdd, Nat.reduceSub])))
  refine .mk pq t0 (by omega) ?_
  have gv := bf_gn pq t0
  have lv := bf_len1000 pq t0 (show oth ≤ 10 ^ 40 by omega)
  have wv := bf_wn pq t0
  have vv := gv.vw pq (by omega)
  obtain ⟨v, hv⟩ : ∃ v, v = bfW p q oth := ⟨_, rfl⟩
  rw [← hv] at gv lv wv vv ⊢
  have lav := len_isD v
  ((repeat walk_at "zs"); (try conv => whnf))
  refine ⟨fun m ρ Ω' => ∃ (one : Int), ρ = [some x, some (I p), some (I q), some (I one), some (I oth), some (T (isD (bfW p q one))), some (T (isD v)), none, none, none, none, none, none, none] ∧ Ω' = Ω ∧ 0 ≤ one ∧ one < 12 ∧ m = one.toNat, ⟨_, one, rfl, rfl, o0, o1, rfl⟩, ?_⟩
  clear o0 o1
  rintro m ρ Ω9 ⟨one, rfl, rfl, o0, o1, rfl⟩
  have gu := bf_gn pq o0
  have lu := bf_len1000 pq o0 (show one ≤ 10 ^ 40 by omega)
  have wu := bf_wn pq o0
  have vu := gu.vw pq (by omega)
  have nz : 0 < (bfW p q one).length → 0 < one := fun h => by
    rcases Int.lt_or_eq_of_le o0 with z | z
    · exact z
    · rw [← z, bfW_zero] at h; simp at h
  obtain ⟨u, hu⟩ : ∃ u, u = bfW p q one := ⟨_, rfl⟩
  rw [← hu] at gu lu wu vu nz ⊢
  have lau := len_isD u
  have c1 : CMulX (p - 1) (p - 1) := cmul (by omega) (by omega) (by omega) (by omega)
  have pp0 : 0 ≤ (p - 1) * (p - 1) := Int.mul_nonneg (by omega) (by omega)
  have pp1 : (p - 1) * (p - 1) ≤ 9 * 9 := Int.mul_le_mul (by omega) (by omega) (by omega) (by decide)
  have c2 : CMulX ((p - 1) * (p - 1)) ((isD u).length : Int) := cmul (by omega) (by omega) (by omega) (by omega)
  ((repeat walk_at "zs"); (try conv => whnf))
  refine br_d (fun z => ?_) fun z => ?_
  · have pos := nz (by
      rcases Nat.eq_zero_or_pos u.length with w | w
      · rw [lau, w] at z
        simp at z
      · exact w)
    ((repeat walk_at "zs"); (try conv => whnf))
    refine .mk pq (by show 0 ≤ one / 2; omega) (by show one / 2 ≤ _; omega) ?_
    ((repeat walk_at "zs"); (try conv => whnf))
    exact ⟨_, by omega, one / 2, rfl, rfl, by omega, by omega, rfl⟩
  clear z c1 c2 pp0 pp1 nz
  have lr : (repD [PyData.int 0] (((isD u).length : Int) + (isD v).length)).length = u.length + v.length := by rw [len_repD]; simp only [List.length_cons, List.length_nil]; omega
  have rr : repD [PyData.int 0] (((isD u).length : Int) + (isD v).length) = isD (List.replicate (u.length + v.length) 0) := by
    rw [rep_isD, show (((isD u).length : Int) + (isD v).length).toNat = u.length + v.length by omega]
  ((repeat walk_at "zs"); (try conv => whnf))
  rw [rr]
  intro a fa
  ((((repeat walk_at "zs"); (try conv => whnf)); (try simp only [startR, List.map_cons, List.map_nil, List.cons_append, List.nil_append, List.set_cons_succ, List.set_cons_zero, List.length_cons, List.length_nil, List.replicate_succ, List.replicate_zero, Nat.reduceAdd, Nat.reduceSub])))
  refine ⟨fun i ρ Ω' => ∃ (w : List Int) (r8 r9 r10 r11 : Option SV), ρ = [some x, some (I p), some (I q), some (I one), some (I oth), some (T (isD u)), some (T (isD v)), some (.r (.ref a)), r8, r9, r10, r11, none, none] ∧ Ω' = (a, .lst (isD w)) :: Ω9 ∧ w.length = u.length + v.length ∧ (∀ f ∈ w, 0 ≤ f ∧ f ≤ 100 * ((i : Int) * v.length)) ∧ vA p q w = q * (vP p q u i * vA p q v), ⟨List.replicate (u.length + v.length) 0, _, _, _, _, rfl, rfl, List.length_replicate, fun f hf => by rw [(List.mem_replicate.mp hf).2]; simp, by rw [vA_zeros, vP_zero]; simp⟩, fun _ _ _ _ => trivial, ?_, ?_⟩
  · rintro i y ρ _ e ⟨w, r8, r9, r10, r11, rfl, rfl, lw, fb, va⟩
    obtain ⟨d, hd, rfl⟩ := enD_get e
    obtain ⟨ui, hui, rfl⟩ := get_isD' hd
    have li := (List.getElem?_eq_some_iff.mp hui).1
    have du := gu.d ui (List.mem_of_getElem? hui)
    have vs := vP_succ (p := p) (q := q) hui
    ((((repeat walk_at "zs"); (try conv => whnf)); (try simp only [startR, List.map_cons, List.map_nil, List.cons_append, List.nil_append, List.set_cons_succ, List.set_cons_zero, List.length_cons, List.length_nil, List.replicate_succ, List.replicate_zero, Nat.reduceAdd, Nat.reduceSub])))
    refine ⟨fun j ρ Ω' => ∃ (w : List Int) (r10 r11 : Option SV), ρ = [some x, some (I p), some (I q), some (I one), some (I oth), some (T (isD u)), some (T (isD v)), some (.r (.ref a)), some (I (i : Nat)), some (I ui), r10, r11, none, none] ∧ Ω' = (a, .lst (isD w)) :: Ω9 ∧ w.length = u.length + v.length ∧ (∀ f ∈ w, 0 ≤ f ∧ f ≤ 100 * ((i : Int) * v.length + j)) ∧ vA p q w = q * (vP p q u i * vA p q v + ui * pw p q u.length i * vP p q v j), ⟨w, _, _, rfl, rfl, lw, fun f hf => by have := fb f hf; omega, by rw [va, vP_zero]; simp⟩, fun _ _ _ _ => trivial, ?_, ?_⟩
    · clear fb va lw e hd
      rintro j y ρ _ e ⟨w, r10, r11, rfl, rfl, lw, fb, va⟩
      obtain ⟨d, hd, rfl⟩ := enD_get e
      obtain ⟨vj, hvj, rfl⟩ := get_isD' hd
      have lj := (List.getElem?_eq_some_iff.mp hvj).1
      have dv := gv.d vj (List.mem_of_getElem? hvj)
      have lij : i + j < w.length := by omega
      have ea : atI (isD w) ((i : Int) + (j : Int)) = some (.int w[i + j]) := at_isD (by omega) (by rw [show ((i : Int) + (j : Int)).toNat = i + j by omega]; exact List.getElem?_eq_getElem lij)
      have cm : CMulX ui vj := cmul (by omega) (by omega) (by omega) (by omega)
      have uv0 := Int.mul_nonneg du.1 dv.1
      have uv1 : ui * vj ≤ 10 * 10 := Int.mul_le_mul (by omega) (by omega) dv.1 (by decide)
      have wb := fb w[i + j] (List.getElem_mem lij)
      have vj2 := vP_succ (p := p) (q := q) hvj
      have st := vA_set (p := p) (q := q) (d := ui * vj) (List.getElem?_eq_getElem lij)
      rw [lw, pw_mul li lj] at st
      have ex : ixN (isD w).length ((i : Int) + (j : Int)) = some (i + j) := by
        rw [show (i : Int) + (j : Int) = ((i + j : Nat) : Int) by omega]
        exact ix_isD' lij
      ((((repeat walk_at "zs"); (try conv => whnf)); (try simp only [startR, List.map_cons, List.map_nil, List.cons_append, List.nil_append, List.set_cons_succ, List.set_cons_zero, List.length_cons, List.length_nil, List.replicate_succ, List.replicate_zero, Nat.reduceAdd, Nat.reduceSub])))
      refine ⟨_, ex, ?_⟩
      rw [set_isD]
      ((((repeat walk_at "zs"); (try conv => whnf)); (try simp only [startR, List.map_cons, List.map_nil, List.cons_append, List.nil_append, List.set_cons_succ, List.set_cons_zero, List.length_cons, List.length_nil, List.replicate_succ, List.replicate_zero, Nat.reduceAdd, Nat.reduceSub])))
      refine ⟨w.set (i + j) (w[i + j] + ui * vj), _, _, rfl, rfl, by rw [List.length_set, lw], fun f hf => ?_, ?_⟩
      · rcases set_mem hf with h | h
        · have := fb f h
          omega
        · subst h
          omega
      · rw [st, va, vj2]
        generalize vP p q u i = P at *
        generalize vA p q v = V at *
        generalize vP p q v j = S at *
        generalize pw p q u.length i = X at *
        generalize pw p q v.length j = Y at *
        grind
    · clear fb va lw
      rintro ρ _ ⟨w, r10, r11, rfl, rfl, lw, fb, va⟩
      rw [enD_len, lav] at fb va
      refine ⟨w, _, _, _, _, rfl, rfl, lw, fun f hf => ?_, ?_⟩
      · have := fb f hf
        have e2 : ((i + 1 : Nat) : Int) * v.length = (i : Int) * v.length + v.length := by
          rw [show ((i + 1 : Nat) : Int) = (i : Int) + 1 by omega, Int.add_mul, Int.one_mul]
        rw [e2]
        exact this
      · rw [va, vs, vP_all]
        generalize vP p q u i = P at *
        generalize vA p q v = V at *
        generalize pw p q u.length i = X at *
        grind
  · rintro ρ _ ⟨w, r8, r9, r10, r11, rfl, rfl, lw, fb, va⟩
    rw [enD_len, lau] at fb va
    rw [vP_all, wn_A wu, wn_A wv] at va
    have uvb : ((u.length : Int)) * v.length ≤ 1000 * 1000 := Int.mul_le_mul (by omega) (by omega) (by omega) (by decide)
    have vw : Vw w := ⟨by omega, fun f hf => by have := fb f hf; omega⟩
    have wn : Wn p q w (q * one * oth) := A_wn pq (by rw [va, lw, Int.pow_add]; grind)
    have n0 : 0 ≤ q * one * oth := Int.mul_nonneg (Int.mul_nonneg (by omega) o0) t0
    have qo0 : 0 ≤ q * one := Int.mul_nonneg (by omega) o0
    have qo1 : q * one ≤ 10 * 12 := Int.mul_le_mul (by omega) (by omega) o0 (by decide)
    have n1 : q * one * oth ≤ 120 * 10 ^ 8 := Int.mul_le_mul qo1 t1 t0 (by decide)
    have cq : CMulX q one := cmul (by omega) (by omega) (by omega) (by omega)
    have cq2 : CMulX (q * one) oth := cmul (by omega) (by omega) (by omega) (by omega)
    have cf := crd_bf pq vw.nn wn
    have cb := bvl_n pq wn n0
    have sbw : Sb (T0 (bfW p q (q * one * oth))) := sb_gn pq (bf_gn pq n0) (by have := bf_len1000 pq n0 (show q * one * oth ≤ 10 ^ 40 by omega); omega)
    clear va fb gu gv wu wv vu vv
    ((((repeat walk_at "zs"); (try conv => whnf)); (try simp only [startR, List.map_cons, List.map_nil, List.cons_append, List.nil_append, List.set_cons_succ, List.set_cons_zero, List.length_cons, List.length_nil, List.replicate_succ, List.replicate_zero, Nat.reduceAdd, Nat.reduceSub])))
    refine .mk pq n0 (by show q * one * oth ≤ _; omega) ?_
    ((((repeat walk_at "zs"); (try conv => whnf)); (try simp only [startR, List.map_cons, List.map_nil, List.cons_append, List.nil_append, List.set_cons_succ, List.set_cons_zero, List.length_cons, List.length_nil, List.replicate_succ, List.replicate_zero, Nat.reduceAdd, Nat.reduceSub])))
    refine .mk pq vw ?_
    rw [cf]
    ((((repeat walk_at "zs"); (try conv => whnf)); (try simp only [startR, List.map_cons, List.map_nil, List.cons_append, List.nil_append, List.set_cons_succ, List.set_cons_zero, List.length_cons, List.length_nil, List.replicate_succ, List.replicate_zero, Nat.reduceAdd, Nat.reduceSub])))
    refine .mk sbw ?_
    ((((repeat walk_at "zs"); (try conv => whnf)); (try simp only [startR, List.map_cons, List.map_nil, List.cons_append, List.nil_append, List.set_cons_succ, List.set_cons_zero, List.length_cons, List.length_nil, List.replicate_succ, List.replicate_zero, Nat.reduceAdd, Nat.reduceSub])))
    refine .mk pq vw ?_
    rw [cb]
    ((((repeat walk_at "zs"); (try conv => whnf)); (try simp only [startR, List.map_cons, List.map_nil, List.cons_append, List.nil_append, List.set_cons_succ, List.set_cons_zero, List.length_cons, List.length_nil, List.replicate_succ, List.replicate_zero, Nat.reduceAdd, Nat.reduceSub])))
    refine .mk (sb_n1 n0 (by show q * one * oth ≤ _; omega)) ?_
    exact ⟨_, .cons _ (.refl _), k _ hB⟩
end
section
local macro_rules | `(tactic| walk_at "z1") => `(tactic| ((try dsimp only); first | done | exact True.intro | exact Nat.le_of_ble_eq_true rfl | (with_reducible assumption) | rfl | omega | (exact ⟨by omega, by omega⟩) | (exact cmul (by omega) (by omega) (by omega) (by omega)) | (exact cdiv (by omega) (by omega)) | (exact Or.inl ⟨by omega, by omega⟩) | (exact Or.inr ⟨by omega, by omega⟩) | decide | assumption | (simp only [List.length_map, List.length_range, List.length_append, List.length_cons, List.length_nil, List.length_replicate, len_repD]; omega)))
local macro_rules | `(tactic| walk_at "zs") => `(tactic| ((conv => whnf); first | with_reducible refine br_T ?_ | with_reducible refine br_F ?_ | with_reducible refine br_d1 rfl ?_ | with_reducible refine br_n ?_ | ((with_reducible refine br_d1 ?_ ?_); (focus omega)) | ((with_reducible refine br_d0 ?_ ?_); (focus omega)) | ((fail_if_success (fail_if_success (with_reducible refine br.mk ?_ ?_))); (fail_if_success with_reducible refine br_d ?_ ?_); first | refine br_T ?_ | refine br_F ?_) | ((fail_if_success (fail_if_success (with_reducible refine And.intro ?_ ?_))); first | refine And.intro (by walk_at "z1") ?_ | refine ⟨⟨_, _, .here, trivial⟩, ?_⟩) | ((fail_if_success (fail_if_success (with_reducible refine Exists.intro ?_ ?_))); first | refine ⟨_, _, .here, ?_⟩ | refine ⟨_, true, rfl, rfl, ?_⟩ | refine ⟨_, false, rfl, rfl, ?_⟩ | refine ⟨_, (by rfl : atI _ _ = some _), ?_⟩ | refine ⟨_, (by assumption : atI _ _ = some _), ?_⟩)))
theorem wn_down2 {p q t : Int} {w : List Int} {n a b : Int} {i : Nat} (h : Wn p q w n) (ha : w[i]? = some a) (hb : w[i + 1]? = some b) : Wn p q ((w.set (i + 1) (b - q * t)).set i (a + p * t)) n := by
  obtain ⟨la, ea⟩ := List.getElem?_eq_some_iff.mp ha
  obtain ⟨lb, eb⟩ := List.getElem?_eq_some_iff.mp hb
  have s : w = w.take i ++ a :: b :: w.drop (i + 2) := by
    rw [← ea, ← eb, ← List.drop_eq_getElem_cons lb, ← List.drop_eq_getElem_cons la, List.take_append_drop]
  have l : (w.take i).length = i := by rw [List.length_take]; omega
  have e : (w.set (i + 1) (b - q * t)).set i (a + p * t) = w.take i ++ (a + p * t) :: (b - q * t) :: w.drop (i + 2) := by
    conv => lhs; rw [s]
    rw [List.set_append_right _ _ (by omega), l, show i + 1 - i = 1 by omega, List.set_append_right _ _ (by omega), l, Nat.sub_self]
    rfl
  rw [e]
  rw [s] at h
  exact wn_down h
theorem w_l_are_put_down_right (Fr : Addr → Prop) (svs : List SV) (Ω : Om) (Φ : PhiE) (Ξ : XA) (h : c_l_are_put_down_right svs Ω Φ Ξ) :
    a_l_are_put_down_right Fr { nx := fun _ Ω => Φ (.d .none) Ω, rt := Φ } (startR N_l_are_put_down_right svs) Ω := by
  obtain ⟨hB, pq, k⟩ := h
  rename_i x L R p q
  have q2 := pq.q2
  have qp := pq.qp
  have p10 := pq.p10
  have s1 : (100000 : Nat) ≤ sizeLine := by decide
  ((repeat walk_at "zs"); (try conv => whnf))
  refine .mk hB fun n Ω n0 n1 hB => ?_
  ((repeat walk_at "zs"); (try conv => whnf))
  refine .mk pq n0 (by omega) ?_
  have gu := bf_gn pq n0
  have lu := bf_len1000 pq n0 (show n ≤ 10 ^ 40 by omega)
  have wu := bf_wn pq n0
  have sbw : Sb (T0 (bfW p q n)) := sb_gn pq gu (by omega)
  obtain ⟨u, hu⟩ : ∃ u, u = bfW p q n := ⟨_, rfl⟩
  rw [← hu] at gu lu wu sbw ⊢
  have lau := len_isD u
  ((repeat walk_at "zs"); (try conv => whnf))
  refine lc_relI (fun _ t => 0 ≤ t ∧ t < 3) (fun Ω' => Bag x L R Ω') (by rw [rgS_len]; decide) hB (fun _ _ => trivial) (fun i y Ω Y N e hB kk => ?_) fun ts Ω hn hP hB => ?_
  · ((repeat walk_at "zs"); (try conv => whnf))
    refine .mk hB (by decide) (bel (by decide) (by decide)) fun r Ω r0 r1 hB => ?_
    exact kk _ _ ⟨r0, r1⟩ hB
  rw [rgS_len] at hn
  have hn : ts.length = 17 := hn
  ((repeat walk_at "zs"); (try conv => whnf))
  intro a fa
  ((((repeat walk_at "zs"); (try conv => whnf)); (try simp only [startR, List.map_cons, List.map_nil, List.cons_append, List.nil_append, List.set_cons_succ, List.set_cons_zero, List.length_cons, List.length_nil, List.replicate_succ, List.replicate_zero, Nat.reduceAdd, Nat.reduceSub])))
  refine ⟨fun j ρ Ω' => ∃ (w : List Int) (r7 r8 : Option SV), ρ = [some x, some (I p), some (I q), some (I n), some (T (isD u)), some (.d (.list (isD ts))), some (.r (.ref a)), r7, r8, none, none] ∧ w.length = u.length ∧ (∀ f ∈ w, 0 ≤ f ∧ f ≤ 1000) ∧ Wn p q w n ∧ Bag x ((a, .lst (isD w)) :: L) R Ω', ⟨u, _, _, rfl, rfl, fun f hf => by have := gu.d f hf; omega, wu, hB.push _⟩, fun _ _ _ _ => trivial, ?_, ?_⟩
  · clear hB
    rintro j y ρ Ω e ⟨w, r7, r8, rfl, lw, fb, wn, hB⟩
    obtain ⟨rfl, lt⟩ := rgB_get e
    obtain ⟨Ω2, rfl, hC⟩ := hB.pop
    clear hB
    obtain ⟨i, hi⟩ : ∃ i : Nat, ((isD u).length : Int) - 1 + (j : Int) * -1 = ((i + 1 : Nat) : Int) := ⟨(((isD u).length : Int) - 1 + (j : Int) * -1).toNat - 1, by omega⟩
    have li : i + 1 < w.length := by omega
    have hb : w[i + 1]? = some w[i + 1] := List.getElem?_eq_getElem li
    have ha : w[i]? = some w[i] := List.getElem?_eq_getElem (by omega)
    have bb := fb _ (List.getElem_mem li)
    have ab := fb w[i] (List.getElem_mem (by omega))
    have eb : atI (isD w) ((i + 1 : Nat) : Int) = some (.int w[i + 1]) := at_isD (by omega) (by rw [Int.toNat_natCast]; exact hb)
    have ea : atI (isD w) (((i + 1 : Nat) : Int) - 1) = some (.int w[i]) := at_isD (by omega) (by rw [show (((i + 1 : Nat) : Int) - 1).toNat = i by omega]; exact ha)
    have jm : ((i + 1 : Nat) : Int) % 17 < 17 := Int.emod_lt_of_pos _ (by decide)
    have jm0 : 0 ≤ ((i + 1 : Nat) : Int) % 17 := Int.emod_nonneg _ (by decide)
    have lti : (((i + 1 : Nat) : Int) % 17).toNat < ts.length := by omega
    have et : atI (isD ts) (((i + 1 : Nat) : Int) % 17) = some (.int ts[(((i + 1 : Nat) : Int) % 17).toNat]) := at_isD jm0 (List.getElem?_eq_getElem lti)
    generalize ts[(((i + 1 : Nat) : Int) % 17).toNat] = tt at et
    have cq : ∀ z, CDivW z q := fun z => cdiv (by omega) (by omega)
    have cp : ∀ z, CDivW z p := fun z => cdiv (by omega) (by omega)
    have d1 : 0 ≤ w[i + 1] / q := Int.ediv_nonneg bb.1 (by omega)
    have d2 : 0 ≤ (1000 - w[i]) / p := Int.ediv_nonneg (by omega) (by omega)
    have d3 : w[i + 1] / q * q ≤ w[i + 1] := Int.ediv_mul_le _ (by omega)
    have d4 : (1000 - w[i]) / p * p ≤ 1000 - w[i] := Int.ediv_mul_le _ (by omega)
    have d5 : w[i + 1] / q ≤ w[i + 1] := Int.ediv_le_self _ bb.1
    have sz : (isD w).length = u.length := by rw [len_isD, lw]
    generalize hB1 : w[i + 1] = b at *
    generalize hA1 : w[i] = c at *
    rw [hi]
    generalize hD1 : b / q = x1 at *
    generalize hD2 : (1000 - c) / p = x2 at *
    obtain ⟨mn, hmn⟩ : ∃ mn, mn = (if x2 < x1 then x2 else x1) := ⟨_, rfl⟩
    have mn0 : 0 ≤ mn ∧ mn ≤ x1 ∧ mn ≤ x2 := by rw [hmn]; split <;> omega
    ((repeat walk_at "zs"); (try conv => whnf))
    rw [hD1]
    ((repeat walk_at "zs"); (try conv => whnf))
    refine ⟨fun y Ω' => ∃ t : Int, y = I t ∧ 0 ≤ t ∧ t ≤ x1 ∧ t ≤ x2 ∧ Ω' = (a, .lst (isD w)) :: Ω2, ?_, ?_⟩
    · ((repeat walk_at "zs"); (try conv => whnf))
      refine br_d (fun z => ?_) fun z => ?_
      · ((repeat walk_at "zs"); (try conv => whnf))
        exact ⟨mn, by rw [hmn, ← hD2], mn0.1, mn0.2.1, mn0.2.2, rfl⟩
      · ((repeat walk_at "zs"); (try conv => whnf))
        refine ⟨mn / 2, by rw [hmn, ← hD2], by omega, by omega, by omega, rfl⟩
    rintro y Ω ⟨t, rfl, t0, t1, t2, rfl⟩
    have qt0 := Int.mul_nonneg (show 0 ≤ q by omega) t0
    have pt0 := Int.mul_nonneg (show 0 ≤ p by omega) t0
    have qt1 : q * t ≤ b := by
      have := Int.mul_le_mul_of_nonneg_left t1 (show 0 ≤ q by omega)
      rw [Int.mul_comm q x1] at this
      omega
    have pt1 : p * t ≤ 1000 - c := by
      have := Int.mul_le_mul_of_nonneg_left t2 (show 0 ≤ p by omega)
      rw [Int.mul_comm p x2] at this
      omega
    have cqt : CMulX q t := cmul (by omega) (by omega) (by omega) (by omega)
    have cpt : CMulX p t := cmul (by omega) (by omega) (by omega) (by omega)
    have ex1 : ixN (isD w).length ((i + 1 : Nat) : Int) = some (i + 1) := ix_isD' li
    have ex2 : ixN (isD (w.set (i + 1) (b - q * t))).length (((i + 1 : Nat) : Int) - 1) = some i := by
      rw [show ((i + 1 : Nat) : Int) - 1 = (i : Nat) by omega]
      exact ix_isD' (by rw [List.length_set]; omega)
    have ea2 : atI (isD (w.set (i + 1) (b - q * t))) (((i + 1 : Nat) : Int) - 1) = some (.int c) := at_isD (by omega) (by rw [show (((i + 1 : Nat) : Int) - 1).toNat = i by omega, List.getElem?_set_ne (by omega)]; exact ha)
    have wd := wn_down2 (t := t) wn ha hb
    ((((repeat walk_at "zs"); (try conv => whnf)); (try simp only [startR, List.map_cons, List.map_nil, List.cons_append, List.nil_append, List.set_cons_succ, List.set_cons_zero, List.length_cons, List.length_nil, List.replicate_succ, List.replicate_zero, Nat.reduceAdd, Nat.reduceSub])))
    refine ⟨_, ex1, ?_⟩
    rw [set_isD]
    ((((repeat walk_at "zs"); (try conv => whnf)); (try simp only [startR, List.map_cons, List.map_nil, List.cons_append, List.nil_append, List.set_cons_succ, List.set_cons_zero, List.length_cons, List.length_nil, List.replicate_succ, List.replicate_zero, Nat.reduceAdd, Nat.reduceSub])))
    refine ⟨_, ex2, ?_⟩
    rw [set_isD]
    ((((repeat walk_at "zs"); (try conv => whnf)); (try simp only [startR, List.map_cons, List.map_nil, List.cons_append, List.nil_append, List.set_cons_succ, List.set_cons_zero, List.length_cons, List.length_nil, List.replicate_succ, List.replicate_zero, Nat.reduceAdd, Nat.reduceSub])))
    refine ⟨(w.set (i + 1) (b - q * t)).set i (c + p * t), _, _, rfl, by rw [List.length_set, List.length_set, lw], fun f hf => ?_, wd, hC.push _⟩
    rcases set_mem hf with h | h
    · rcases set_mem h with h | h
      · exact fb f h
      · subst h; omega
    · subst h; omega
  · clear hB
    rintro ρ Ω ⟨w, r7, r8, rfl, lw, fb, wn, hB⟩
    have law := len_isD w
    ((((repeat walk_at "zs"); (try conv => whnf)); (try simp only [startR, List.map_cons, List.map_nil, List.cons_append, List.nil_append, List.set_cons_succ, List.set_cons_zero, List.length_cons, List.length_nil, List.replicate_succ, List.replicate_zero, Nat.reduceAdd, Nat.reduceSub])))
    refine .mk hB (by decide) (bel (by decide) (by decide)) fun r Ω r0 r1 hB => ?_
    obtain ⟨Ω2, rfl, hC⟩ := hB.pop
    have lrep : (repD [PyData.int 0] r).length ≤ 3 := by rw [len_repD]; simp only [List.length_cons, List.length_nil]; omega
    have wv : Vw (w ++ List.replicate r.toNat 0) := ⟨by rw [List.length_append, List.length_replicate]; omega, fun f hf => by
      rcases List.mem_append.mp hf with h | h
      · have := fb f h; omega
      · rw [(List.mem_replicate.mp h).2]; decide⟩
    have w2 := wn_pad r.toNat wn
    have cf := crd_bf pq wv.nn w2
    have cb := bvl_n pq w2 n0
    rw [← hu] at cf
    ((((repeat walk_at "zs"); (try conv => whnf)); (try simp only [startR, List.map_cons, List.map_nil, List.cons_append, List.nil_append, List.set_cons_succ, List.set_cons_zero, List.length_cons, List.length_nil, List.replicate_succ, List.replicate_zero, Nat.reduceAdd, Nat.reduceSub])))
    rw [fill_isD]
    refine .mk pq wv ?_
    rw [cf]
    ((((repeat walk_at "zs"); (try conv => whnf)); (try simp only [startR, List.map_cons, List.map_nil, List.cons_append, List.nil_append, List.set_cons_succ, List.set_cons_zero, List.length_cons, List.length_nil, List.replicate_succ, List.replicate_zero, Nat.reduceAdd, Nat.reduceSub])))
    refine .mk sbw ?_
    ((((repeat walk_at "zs"); (try conv => whnf)); (try simp only [startR, List.map_cons, List.map_nil, List.cons_append, List.nil_append, List.set_cons_succ, List.set_cons_zero, List.length_cons, List.length_nil, List.replicate_succ, List.replicate_zero, Nat.reduceAdd, Nat.reduceSub])))
    refine .mk pq wv ?_
    rw [cb]
    ((((repeat walk_at "zs"); (try conv => whnf)); (try simp only [startR, List.map_cons, List.map_nil, List.cons_append, List.nil_append, List.set_cons_succ, List.set_cons_zero, List.length_cons, List.length_nil, List.replicate_succ, List.replicate_zero, Nat.reduceAdd, Nat.reduceSub])))
    refine .mk (sb_n1 n0 (by omega)) ?_
    exact ⟨_, .cons _ (.refl _), k _ hC⟩
theorem w_l_are_any_right (Fr : Addr → Prop) (svs : List SV) (Ω : Om) (Φ : PhiE) (Ξ : XA) (h : c_l_are_any_right svs Ω Φ Ξ) :
    a_l_are_any_right Fr { nx := fun _ Ω => Φ (.d .none) Ω, rt := Φ } (startR N_l_are_any_right svs) Ω := by
  obtain ⟨hB, pq, k⟩ := h
  rename_i x L R p q
  have q2 := pq.q2
  have qp := pq.qp
  have p10 := pq.p10
  have s1 : (100000 : Nat) ≤ sizeLine := by decide
  ((repeat walk_at "zs"); (try conv => whnf))
  refine .mk hB (by decide) (bel (by decide) (by decide)) fun e1 Ω e10 e11 hB => ?_
  ((repeat walk_at "zs"); (try conv => whnf))
  refine .mk hB (by decide) (bel (by decide) (by decide)) fun e2 Ω e20 e21 hB => ?_
  ((repeat walk_at "zs"); (try conv => whnf))
  refine .mk hB (by decide) (bel (by decide) (by decide)) fun e3 Ω e30 e31 hB => ?_
  ((repeat walk_at "zs"); (try conv => whnf))
  refine .mk hB (by simp) (by simp) fun d hd Ω hB => ?_
  obtain ⟨many, rfl, m0, m1⟩ : ∃ t : Int, d = .int t ∧ 0 ≤ t ∧ t ≤ 1000 := by
    simp only [List.mem_cons, List.not_mem_nil, or_false] at hd
    rcases hd with rfl | rfl | rfl | rfl | rfl
    all_goals exact ⟨_, rfl, by omega, by omega⟩
  clear hd e10 e11 e20 e21 e30 e31
  have c2p : CMulX 2 p := cmul (by decide) (by decide) (by omega) (by omega)
  ((repeat walk_at "zs"); (try conv => whnf))
  refine .mk hB (by simp) (by simp) fun d hd Ω hB => ?_
  obtain ⟨top, rfl, t0, t1⟩ : ∃ t : Int, d = .int t ∧ 1 ≤ t ∧ t ≤ 1001 := by
    simp only [List.mem_cons, List.not_mem_nil, or_false] at hd
    rcases hd with rfl | rfl | rfl | rfl
    all_goals exact ⟨_, rfl, by omega, by omega⟩
  clear hd
  ((((repeat walk_at "zs"); (try conv => whnf)); (try simp only [startR, List.map_cons, List.map_nil, List.cons_append, List.nil_append, List.set_cons_succ, List.set_cons_zero, List.length_cons, List.length_nil, List.replicate_succ, List.replicate_zero, Nat.reduceAdd, Nat.reduceSub])))
  refine .mk hB (by decide) (bel (by decide) (by decide)) fun e1 Ω e10 e11 hB => ?_
  ((repeat walk_at "zs"); (try conv => whnf))
  refine lc_relI (fun _ t => 0 ≤ t ∧ t ≤ 1000) (fun Ω' => Bag x L R Ω') (by rw [rgS_len]; omega) hB (fun _ _ => trivial) (fun i y Ω Y N e hB kk => ?_) fun ps Ω hn hP hB => ?_
  · ((repeat walk_at "zs"); (try conv => whnf))
    refine .mk hB (by omega) (bel (by omega) (by omega)) fun r Ω r0 r1 hB => ?_
    exact kk _ _ ⟨r0, by omega⟩ hB
  rw [rgS_len] at hn
  have lps := len_isD ps
  have lr : (repD (isD ps) 1000).length = 1000 * ps.length := by rw [len_repD, lps]; rfl
  have rr : repD (isD ps) 1000 = isD ((List.replicate 1000 ps).flatten) := by
    unfold repD isD
    rw [List.map_flatten, List.map_replicate]
    rfl
  have fl : ((List.replicate 1000 ps).flatten).length = 1000 * ps.length := by rw [← len_isD, ← rr, lr]
  have fm : ∀ f ∈ (List.replicate 1000 ps).flatten, 0 ≤ f ∧ f ≤ 1000 := fun f hf => by
    obtain ⟨t, h1, h2⟩ := List.mem_flatten.mp hf
    rw [(List.mem_replicate.mp h1).2] at h2
    obtain ⟨i, hi, rfl⟩ := List.mem_iff_getElem.mp h2
    exact hP i _ (List.getElem?_eq_getElem hi)
  ((((repeat walk_at "zs"); (try conv => whnf)); (try simp only [startR, List.map_cons, List.map_nil, List.cons_append, List.nil_append, List.set_cons_succ, List.set_cons_zero, List.length_cons, List.length_nil, List.replicate_succ, List.replicate_zero, Nat.reduceAdd, Nat.reduceSub])))
  refine ⟨by show (isD ps).length * 1000 ≤ _; omega, ?_⟩
  ((((repeat walk_at "zs"); (try conv => whnf)); (try simp only [startR, List.map_cons, List.map_nil, List.cons_append, List.nil_append, List.set_cons_succ, List.set_cons_zero, List.length_cons, List.length_nil, List.replicate_succ, List.replicate_zero, Nat.reduceAdd, Nat.reduceSub])))
  intro a fa
  rw [rr, cut_to_isD m0]
  have wl : (((List.replicate 1000 ps).flatten).take many.toNat).length = many.toNat := by rw [List.length_take, fl]; omega
  have wm : ∀ f ∈ ((List.replicate 1000 ps).flatten).take many.toNat, 0 ≤ f ∧ f ≤ 1000 := fun f hf => fm f (List.mem_of_mem_take hf)
  generalize ((List.replicate 1000 ps).flatten).take many.toNat = w0 at *
  clear fm fl rr lr hn hP e10 e11
  by_cases mz : 0 < many
  · ((((repeat walk_at "zs"); (try conv => whnf)); (try simp only [startR, List.map_cons, List.map_nil, List.cons_append, List.nil_append, List.set_cons_succ, List.set_cons_zero, List.length_cons, List.length_nil, List.replicate_succ, List.replicate_zero, Nat.reduceAdd, Nat.reduceSub])))
    refine ⟨fun j ρ Ω' => ∃ (w : List Int) (r7 : Option SV), ρ = [some x, some (I p), some (I q), some (I many), some (I top), some (.d (.list (isD ps))), some (.r (.ref a)), r7, none, none, none] ∧ w.length = many.toNat ∧ (∀ f ∈ w, 0 ≤ f ∧ f ≤ 1000) ∧ Bag x ((a, .lst (isD w)) :: L) R Ω', ⟨w0, _, rfl, wl, wm, hB.push _⟩, fun _ _ _ _ => trivial, ?_, ?_⟩
    · clear wl wm hB
      rintro j y ρ Ω e ⟨w, r7, rfl, wl, wm, hB⟩
      obtain ⟨rfl, lt⟩ := rgS_get e
      ((((repeat walk_at "zs"); (try conv => whnf)); (try simp only [startR, List.map_cons, List.map_nil, List.cons_append, List.nil_append, List.set_cons_succ, List.set_cons_zero, List.length_cons, List.length_nil, List.replicate_succ, List.replicate_zero, Nat.reduceAdd, Nat.reduceSub])))
      refine .mk hB (by omega) (bel (by omega) (by omega)) fun r Ω r0 r1 hB => ?_
      ((((repeat walk_at "zs"); (try conv => whnf)); (try simp only [startR, List.map_cons, List.map_nil, List.cons_append, List.nil_append, List.set_cons_succ, List.set_cons_zero, List.length_cons, List.length_nil, List.replicate_succ, List.replicate_zero, Nat.reduceAdd, Nat.reduceSub])))
      refine .mk hB (by simp) (by simp) fun d hd Ω hB => ?_
      obtain ⟨f, rfl, f0, f1⟩ : ∃ t : Int, d = .int t ∧ 0 ≤ t ∧ t ≤ 1000 := by
        simp only [List.mem_cons, List.not_mem_nil, or_false] at hd
        rcases hd with rfl | rfl | rfl | rfl | rfl
        all_goals exact ⟨_, rfl, by omega, by omega⟩
      ((((repeat walk_at "zs"); (try conv => whnf)); (try simp only [startR, List.map_cons, List.map_nil, List.cons_append, List.nil_append, List.set_cons_succ, List.set_cons_zero, List.length_cons, List.length_nil, List.replicate_succ, List.replicate_zero, Nat.reduceAdd, Nat.reduceSub])))
      refine .mk hB mz (bel mz (by omega)) fun at_ Ω at0 at1 hB => ?_
      obtain ⟨Ω2, rfl, hC⟩ := hB.pop
      ((((repeat walk_at "zs"); (try conv => whnf)); (try simp only [startR, List.map_cons, List.map_nil, List.cons_append, List.nil_append, List.set_cons_succ, List.set_cons_zero, List.length_cons, List.length_nil, List.replicate_succ, List.replicate_zero, Nat.reduceAdd, Nat.reduceSub])))
      refine ⟨_, ix_i at0 (by omega), ?_⟩
      rw [set_isD]
      ((((repeat walk_at "zs"); (try conv => whnf)); (try simp only [startR, List.map_cons, List.map_nil, List.cons_append, List.nil_append, List.set_cons_succ, List.set_cons_zero, List.length_cons, List.length_nil, List.replicate_succ, List.replicate_zero, Nat.reduceAdd, Nat.reduceSub])))
      refine ⟨_, _, rfl, by rw [List.length_set, wl], fun g hg => ?_, hC.push _⟩
      rcases set_mem hg with h | h
      · exact wm g h
      · subst h; omega
    · clear wl wm hB
      rintro ρ Ω ⟨w, r7, rfl, wl, wm, hB⟩
      have pos : 0 < (isD w).length := by rw [len_isD]; omega
      refine ⟨fun ρ' Ω' => ∃ (w : List Int), ρ' = [some x, some (I p), some (I q), some (I many), some (I top), some (.d (.list (isD ps))), some (.r (.ref a)), r7, none, none, none] ∧ w.length = many.toNat ∧ (∀ f ∈ w, 0 ≤ f ∧ f ≤ 1000) ∧ Bag x ((a, .lst (isD w)) :: L) R Ω', ?_, ?_⟩
      · ((((repeat walk_at "zs"); (try conv => whnf)); (try simp only [startR, List.map_cons, List.map_nil, List.cons_append, List.nil_append, List.set_cons_succ, List.set_cons_zero, List.length_cons, List.length_nil, List.replicate_succ, List.replicate_zero, Nat.reduceAdd, Nat.reduceSub])))
        refine .mk hB (by decide) (bel (by decide) (by decide)) fun r Ω r0 r1 hB => ?_
        ((((repeat walk_at "zs"); (try conv => whnf)); (try simp only [startR, List.map_cons, List.map_nil, List.cons_append, List.nil_append, List.set_cons_succ, List.set_cons_zero, List.length_cons, List.length_nil, List.replicate_succ, List.replicate_zero, Nat.reduceAdd, Nat.reduceSub])))
        refine br_d (fun z => ?_) fun z => ?_
        · ((((repeat walk_at "zs"); (try conv => whnf)); (try simp only [startR, List.map_cons, List.map_nil, List.cons_append, List.nil_append, List.set_cons_succ, List.set_cons_zero, List.length_cons, List.length_nil, List.replicate_succ, List.replicate_zero, Nat.reduceAdd, Nat.reduceSub])))
          refine .mk hB (by simp) (by simp) fun d hd Ω hB => ?_
          obtain ⟨f, rfl, f0, f1⟩ : ∃ t : Int, d = .int t ∧ 0 ≤ t ∧ t ≤ 1000 := by
            simp only [List.mem_cons, List.not_mem_nil, or_false] at hd
            rcases hd with rfl | rfl | rfl | rfl | rfl
            all_goals exact ⟨_, rfl, by omega, by omega⟩
          obtain ⟨Ω2, rfl, hC⟩ := hB.pop
          ((((repeat walk_at "zs"); (try conv => whnf)); (try simp only [startR, List.map_cons, List.map_nil, List.cons_append, List.nil_append, List.set_cons_succ, List.set_cons_zero, List.length_cons, List.length_nil, List.replicate_succ, List.replicate_zero, Nat.reduceAdd, Nat.reduceSub])))
          refine ⟨_, ix_end pos, ?_⟩
          rw [set_isD]
          ((repeat walk_at "zs"); (try conv => whnf))
          refine ⟨_, by first | rfl | trivial, by rw [List.length_set, wl], fun g hg => ?_, hC.push _⟩
          rcases set_mem hg with h | h
          · exact wm g h
          · subst h; omega
        · ((repeat walk_at "zs"); (try conv => whnf))
          exact ⟨w, by first | rfl | trivial, wl, wm, hB⟩
      · clear wl wm hB pos
        rintro ρ Ω ⟨w, rfl, wl, wm, hB⟩
        have vw : Vw w := ⟨by rw [wl]; omega, fun f hf => by have := wm f hf; omega⟩
        obtain ⟨Ω3, rfl, hC⟩ := hB.pop
        obtain ⟨cl, cdg⟩ := crd_vw pq vw
        have sb1 := sb_bvl pq vw
        have sb2 := sb_crd pq vw
        ((((repeat walk_at "zs"); (try conv => whnf)); (try simp only [startR, List.map_cons, List.map_nil, List.cons_append, List.nil_append, List.set_cons_succ, List.set_cons_zero, List.length_cons, List.length_nil, List.replicate_succ, List.replicate_zero, Nat.reduceAdd, Nat.reduceSub])))
        refine .mk pq vw ?_
        ((((repeat walk_at "zs"); (try conv => whnf)); (try simp only [startR, List.map_cons, List.map_nil, List.cons_append, List.nil_append, List.set_cons_succ, List.set_cons_zero, List.length_cons, List.length_nil, List.replicate_succ, List.replicate_zero, Nat.reduceAdd, Nat.reduceSub])))
        refine .mk pq vw ?_
        ((((repeat walk_at "zs"); (try conv => whnf)); (try simp only [startR, List.map_cons, List.map_nil, List.cons_append, List.nil_append, List.set_cons_succ, List.set_cons_zero, List.length_cons, List.length_nil, List.replicate_succ, List.replicate_zero, Nat.reduceAdd, Nat.reduceSub])))
        refine .mk pq vw ?_
        ((((repeat walk_at "zs"); (try conv => whnf)); (try simp only [startR, List.map_cons, List.map_nil, List.cons_append, List.nil_append, List.set_cons_succ, List.set_cons_zero, List.length_cons, List.length_nil, List.replicate_succ, List.replicate_zero, Nat.reduceAdd, Nat.reduceSub])))
        refine .mk sb1 ?_
        ((((repeat walk_at "zs"); (try conv => whnf)); (try simp only [startR, List.map_cons, List.map_nil, List.cons_append, List.nil_append, List.set_cons_succ, List.set_cons_zero, List.length_cons, List.length_nil, List.replicate_succ, List.replicate_zero, Nat.reduceAdd, Nat.reduceSub])))
        refine .mk pq vw ?_
        ((((repeat walk_at "zs"); (try conv => whnf)); (try simp only [startR, List.map_cons, List.map_nil, List.cons_append, List.nil_append, List.set_cons_succ, List.set_cons_zero, List.length_cons, List.length_nil, List.replicate_succ, List.replicate_zero, Nat.reduceAdd, Nat.reduceSub])))
        refine .mk sb2 ?_
        ((((repeat walk_at "zs"); (try conv => whnf)); (try simp only [startR, List.map_cons, List.map_nil, List.cons_append, List.nil_append, List.set_cons_succ, List.set_cons_zero, List.length_cons, List.length_nil, List.replicate_succ, List.replicate_zero, Nat.reduceAdd, Nat.reduceSub])))
        refine br_d (fun z => ?_) fun z => ?_
        · have vc : Vw (crd p q w) := ⟨by rw [len_isD] at z; omega, fun f hf => by have := cdg f hf; omega⟩
          have ec := bvl_crd pq vw vc
          ((((repeat walk_at "zs"); (try conv => whnf)); (try simp only [startR, List.map_cons, List.map_nil, List.cons_append, List.nil_append, List.set_cons_succ, List.set_cons_zero, List.length_cons, List.length_nil, List.replicate_succ, List.replicate_zero, Nat.reduceAdd, Nat.reduceSub])))
          refine .mk pq vc ?_
          rw [ec]
          ((((repeat walk_at "zs"); (try conv => whnf)); (try simp only [startR, List.map_cons, List.map_nil, List.cons_append, List.nil_append, List.set_cons_succ, List.set_cons_zero, List.length_cons, List.length_nil, List.replicate_succ, List.replicate_zero, Nat.reduceAdd, Nat.reduceSub])))
          refine .mk sb1 ?_
          ((((repeat walk_at "zs"); (try conv => whnf)); (try simp only [startR, List.map_cons, List.map_nil, List.cons_append, List.nil_append, List.set_cons_succ, List.set_cons_zero, List.length_cons, List.length_nil, List.replicate_succ, List.replicate_zero, Nat.reduceAdd, Nat.reduceSub])))
          refine .mk pq vw ?_
          ((((repeat walk_at "zs"); (try conv => whnf)); (try simp only [startR, List.map_cons, List.map_nil, List.cons_append, List.nil_append, List.set_cons_succ, List.set_cons_zero, List.length_cons, List.length_nil, List.replicate_succ, List.replicate_zero, Nat.reduceAdd, Nat.reduceSub])))
          refine .mk sb2 ?_
          ((((repeat walk_at "zs"); (try conv => whnf)); (try simp only [startR, List.map_cons, List.map_nil, List.cons_append, List.nil_append, List.set_cons_succ, List.set_cons_zero, List.length_cons, List.length_nil, List.replicate_succ, List.replicate_zero, Nat.reduceAdd, Nat.reduceSub])))
          refine .mk pq vw ?_
          ((((repeat walk_at "zs"); (try conv => whnf)); (try simp only [startR, List.map_cons, List.map_nil, List.cons_append, List.nil_append, List.set_cons_succ, List.set_cons_zero, List.length_cons, List.length_nil, List.replicate_succ, List.replicate_zero, Nat.reduceAdd, Nat.reduceSub])))
          refine .mk sb1 ?_
          exact ⟨_, .cons _ (.refl _), k _ hC⟩
        · ((((repeat walk_at "zs"); (try conv => whnf)); (try simp only [startR, List.map_cons, List.map_nil, List.cons_append, List.nil_append, List.set_cons_succ, List.set_cons_zero, List.length_cons, List.length_nil, List.replicate_succ, List.replicate_zero, Nat.reduceAdd, Nat.reduceSub])))
          refine .mk pq vw ?_
          ((((repeat walk_at "zs"); (try conv => whnf)); (try simp only [startR, List.map_cons, List.map_nil, List.cons_append, List.nil_append, List.set_cons_succ, List.set_cons_zero, List.length_cons, List.length_nil, List.replicate_succ, List.replicate_zero, Nat.reduceAdd, Nat.reduceSub])))
          refine .mk sb2 ?_
          ((((repeat walk_at "zs"); (try conv => whnf)); (try simp only [startR, List.map_cons, List.map_nil, List.cons_append, List.nil_append, List.set_cons_succ, List.set_cons_zero, List.length_cons, List.length_nil, List.replicate_succ, List.replicate_zero, Nat.reduceAdd, Nat.reduceSub])))
          refine .mk pq vw ?_
          ((((repeat walk_at "zs"); (try conv => whnf)); (try simp only [startR, List.map_cons, List.map_nil, List.cons_append, List.nil_append, List.set_cons_succ, List.set_cons_zero, List.length_cons, List.length_nil, List.replicate_succ, List.replicate_zero, Nat.reduceAdd, Nat.reduceSub])))
          refine .mk sb1 ?_
          exact ⟨_, .cons _ (.refl _), k _ hC⟩
  · ((((repeat walk_at "zs"); (try conv => whnf)); (try simp only [startR, List.map_cons, List.map_nil, List.cons_append, List.nil_append, List.set_cons_succ, List.set_cons_zero, List.length_cons, List.length_nil, List.replicate_succ, List.replicate_zero, Nat.reduceAdd, Nat.reduceSub])))
    refine ⟨fun j ρ Ω' => ρ = [some x, some (I p), some (I q), some (I many), some (I top), some (.d (.list (isD ps))), some (.r (.ref a)), none, none, none, none] ∧ Bag x ((a, .lst (isD w0)) :: L) R Ω', ⟨rfl, hB.push _⟩, fun _ _ _ _ => trivial, ?_, ?_⟩
    · rintro j y ρ Ω e -
      obtain ⟨-, lt⟩ := rgS_get e
      have lt : j < 0 := lt
      omega
    · clear hB
      rintro ρ Ω ⟨rfl, hB⟩
      refine ⟨fun ρ' Ω' => ρ' = [some x, some (I p), some (I q), some (I many), some (I top), some (.d (.list (isD ps))), some (.r (.ref a)), none, none, none, none] ∧ Bag x ((a, .lst (isD w0)) :: L) R Ω', ?_, ?_⟩
      · ((repeat walk_at "zs"); (try conv => whnf))
        exact (by first | exact ⟨rfl, hB⟩ | exact ⟨trivial, hB⟩ | exact hB)
      · clear hB
        rintro ρ Ω ⟨rfl, hB⟩
        have vw : Vw w0 := ⟨by rw [wl]; omega, fun f hf => by have := wm f hf; omega⟩
        obtain ⟨Ω3, rfl, hC⟩ := hB.pop
        obtain ⟨cl, cdg⟩ := crd_vw pq vw
        have sb1 := sb_bvl pq vw
        have sb2 := sb_crd pq vw
        ((((repeat walk_at "zs"); (try conv => whnf)); (try simp only [startR, List.map_cons, List.map_nil, List.cons_append, List.nil_append, List.set_cons_succ, List.set_cons_zero, List.length_cons, List.length_nil, List.replicate_succ, List.replicate_zero, Nat.reduceAdd, Nat.reduceSub])))
        refine .mk pq vw ?_
        ((((repeat walk_at "zs"); (try conv => whnf)); (try simp only [startR, List.map_cons, List.map_nil, List.cons_append, List.nil_append, List.set_cons_succ, List.set_cons_zero, List.length_cons, List.length_nil, List.replicate_succ, List.replicate_zero, Nat.reduceAdd, Nat.reduceSub])))
        refine .mk pq vw ?_
        ((((repeat walk_at "zs"); (try conv => whnf)); (try simp only [startR, List.map_cons, List.map_nil, List.cons_append, List.nil_append, List.set_cons_succ, List.set_cons_zero, List.length_cons, List.length_nil, List.replicate_succ, List.replicate_zero, Nat.reduceAdd, Nat.reduceSub])))
        refine .mk pq vw ?_
        ((((repeat walk_at "zs"); (try conv => whnf)); (try simp only [startR, List.map_cons, List.map_nil, List.cons_append, List.nil_append, List.set_cons_succ, List.set_cons_zero, List.length_cons, List.length_nil, List.replicate_succ, List.replicate_zero, Nat.reduceAdd, Nat.reduceSub])))
        refine .mk sb1 ?_
        ((((repeat walk_at "zs"); (try conv => whnf)); (try simp only [startR, List.map_cons, List.map_nil, List.cons_append, List.nil_append, List.set_cons_succ, List.set_cons_zero, List.length_cons, List.length_nil, List.replicate_succ, List.replicate_zero, Nat.reduceAdd, Nat.reduceSub])))
        refine .mk pq vw ?_
        ((((repeat walk_at "zs"); (try conv => whnf)); (try simp only [startR, List.map_cons, List.map_nil, List.cons_append, List.nil_append, List.set_cons_succ, List.set_cons_zero, List.length_cons, List.length_nil, List.replicate_succ, List.replicate_zero, Nat.reduceAdd, Nat.reduceSub])))
        refine .mk sb2 ?_
        ((((repeat walk_at "zs"); (try conv => whnf)); (try simp only [startR, List.map_cons, List.map_nil, List.cons_append, List.nil_append, List.set_cons_succ, List.set_cons_zero, List.length_cons, List.length_nil, List.replicate_succ, List.replicate_zero, Nat.reduceAdd, Nat.reduceSub])))
        refine br_d (fun z => ?_) fun z => ?_
        · have vc : Vw (crd p q w0) := ⟨by rw [len_isD] at z; omega, fun f hf => by have := cdg f hf; omega⟩
          have ec := bvl_crd pq vw vc
          ((((repeat walk_at "zs"); (try conv => whnf)); (try simp only [startR, List.map_cons, List.map_nil, List.cons_append, List.nil_append, List.set_cons_succ, List.set_cons_zero, List.length_cons, List.length_nil, List.replicate_succ, List.replicate_zero, Nat.reduceAdd, Nat.reduceSub])))
          refine .mk pq vc ?_
          rw [ec]
          ((((repeat walk_at "zs"); (try conv => whnf)); (try simp only [startR, List.map_cons, List.map_nil, List.cons_append, List.nil_append, List.set_cons_succ, List.set_cons_zero, List.length_cons, List.length_nil, List.replicate_succ, List.replicate_zero, Nat.reduceAdd, Nat.reduceSub])))
          refine .mk sb1 ?_
          ((((repeat walk_at "zs"); (try conv => whnf)); (try simp only [startR, List.map_cons, List.map_nil, List.cons_append, List.nil_append, List.set_cons_succ, List.set_cons_zero, List.length_cons, List.length_nil, List.replicate_succ, List.replicate_zero, Nat.reduceAdd, Nat.reduceSub])))
          refine .mk pq vw ?_
          ((((repeat walk_at "zs"); (try conv => whnf)); (try simp only [startR, List.map_cons, List.map_nil, List.cons_append, List.nil_append, List.set_cons_succ, List.set_cons_zero, List.length_cons, List.length_nil, List.replicate_succ, List.replicate_zero, Nat.reduceAdd, Nat.reduceSub])))
          refine .mk sb2 ?_
          ((((repeat walk_at "zs"); (try conv => whnf)); (try simp only [startR, List.map_cons, List.map_nil, List.cons_append, List.nil_append, List.set_cons_succ, List.set_cons_zero, List.length_cons, List.length_nil, List.replicate_succ, List.replicate_zero, Nat.reduceAdd, Nat.reduceSub])))
          refine .mk pq vw ?_
          ((((repeat walk_at "zs"); (try conv => whnf)); (try simp only [startR, List.map_cons, List.map_nil, List.cons_append, List.nil_append, List.set_cons_succ, List.set_cons_zero, List.length_cons, List.length_nil, List.replicate_succ, List.replicate_zero, Nat.reduceAdd, Nat.reduceSub])))
          refine .mk sb1 ?_
          exact ⟨_, .cons _ (.refl _), k _ hC⟩
        · ((((repeat walk_at "zs"); (try conv => whnf)); (try simp only [startR, List.map_cons, List.map_nil, List.cons_append, List.nil_append, List.set_cons_succ, List.set_cons_zero, List.length_cons, List.length_nil, List.replicate_succ, List.replicate_zero, Nat.reduceAdd, Nat.reduceSub])))
          refine .mk pq vw ?_
          ((((repeat walk_at "zs"); (try conv => whnf)); (try simp only [startR, List.map_cons, List.map_nil, List.cons_append, List.nil_append, List.set_cons_succ, List.set_cons_zero, List.length_cons, List.length_nil, List.replicate_succ, List.replicate_zero, Nat.reduceAdd, Nat.reduceSub])))
          refine .mk sb2 ?_
          ((((repeat walk_at "zs"); (try conv => whnf)); (try simp only [startR, List.map_cons, List.map_nil, List.cons_append, List.nil_append, List.set_cons_succ, List.set_cons_zero, List.length_cons, List.length_nil, List.replicate_succ, List.replicate_zero, Nat.reduceAdd, Nat.reduceSub])))
          refine .mk pq vw ?_
          ((((repeat walk_at "zs"); (try conv => whnf)); (try simp only [startR, List.map_cons, List.map_nil, List.cons_append, List.nil_append, List.set_cons_succ, List.set_cons_zero, List.length_cons, List.length_nil, List.replicate_succ, List.replicate_zero, Nat.reduceAdd, Nat.reduceSub])))
          refine .mk sb1 ?_
          exact ⟨_, .cons _ (.refl _), k _ hC⟩
end
section
local macro_rules | `(tactic| walk_at "z1") => `(tactic| ((try dsimp only); first | done | exact True.intro | exact Nat.le_of_ble_eq_true rfl | (with_reducible assumption) | rfl | omega | (exact ⟨by omega, by omega⟩) | (exact cmul (by omega) (by omega) (by omega) (by omega)) | (exact cdiv (by omega) (by omega)) | (exact Or.inl ⟨by omega, by omega⟩) | (exact Or.inr ⟨by omega, by omega⟩) | decide | assumption | (simp only [List.length_map, List.length_range, List.length_append, List.length_cons, List.length_nil, List.length_replicate, len_repD]; omega)))
local macro_rules | `(tactic| walk_at "zs") => `(tactic| ((conv => whnf); first | with_reducible refine br_T ?_ | with_reducible refine br_F ?_ | with_reducible refine br_d1 rfl ?_ | with_reducible refine br_n ?_ | ((with_reducible refine br_d1 ?_ ?_); (focus omega)) | ((with_reducible refine br_d0 ?_ ?_); (focus omega)) | ((fail_if_success (fail_if_success (with_reducible refine br.mk ?_ ?_))); (fail_if_success with_reducible refine br_d ?_ ?_); first | refine br_T ?_ | refine br_F ?_) | ((fail_if_success (fail_if_success (with_reducible refine And.intro ?_ ?_))); first | refine And.intro (by walk_at "z1") ?_ | refine ⟨⟨_, _, .here, trivial⟩, ?_⟩) | ((fail_if_success (fail_if_success (with_reducible refine Exists.intro ?_ ?_))); first | refine ⟨_, _, .here, ?_⟩ | refine ⟨_, true, rfl, rfl, ?_⟩ | refine ⟨_, false, rfl, rfl, ?_⟩ | refine ⟨_, (by rfl : atI _ _ = some _), ?_⟩ | refine ⟨_, (by assumption : atI _ _ = some _), ?_⟩)))
theorem w_l_are_long_judged (Fr : Addr → Prop) (svs : List SV) (Ω : Om) (Φ : PhiE) (Ξ : XA) (h : c_l_are_long_judged svs Ω Φ Ξ) :
    a_l_are_long_judged Fr { nx := fun _ Ω => Φ (.d .none) Ω, rt := Φ } (startR N_l_are_long_judged svs) Ω := by
  obtain ⟨hB, pq, k⟩ := h
  rename_i x L R p q
  have q2 := pq.q2
  have qp := pq.qp
  have p10 := pq.p10
  have s1 : (100000 : Nat) ≤ sizeLine := by decide
  ((repeat walk_at "zs"); (try conv => whnf))
  refine ⟨fun y Ω' => ∃ m : Int, y = I m ∧ 1 ≤ m ∧ m ≤ 1000 ∧ Bag x L R Ω', ?_, ?_⟩
  · refine .mk hB (by decide) (bel (by decide) (by decide)) fun r Ω r0 r1 hB => ?_
    ((repeat walk_at "zs"); (try conv => whnf))
    refine br_d (fun z => ?_) fun z => ?_
    · exact ⟨_, rfl, by decide, by decide, hB⟩
    · ((repeat walk_at "zs"); (try conv => whnf))
      refine .mk hB (by simp) (by simp) fun d hd Ω hB => ?_
      obtain ⟨m, rfl, hm⟩ : ∃ m : Int, d = .int m ∧ (8≤m∧m≤999) := by
        repeat (rcases List.mem_cons.mp hd with rfl | hd; (exact ⟨_, rfl, by omega⟩))
        exact absurd hd List.not_mem_nil
      ((repeat walk_at "zs"); (try conv => whnf))
      refine .mk hB (by omega) (bel (by omega) (by omega)) fun r Ω r0 r1 hB => ?_
      exact ⟨_, rfl, by omega, by omega, hB⟩
  clear hB
  rintro y Ω ⟨m, rfl, m0, m1, hB⟩
  ((((repeat walk_at "zs"); (try conv => whnf)); (try simp only [startR, List.map_cons, List.map_nil, List.cons_append, List.nil_append, List.set_cons_succ, List.set_cons_zero, List.length_cons, List.length_nil, List.replicate_succ, List.replicate_zero, Nat.reduceAdd, Nat.reduceSub])))
  refine .mk hB pq m0 (by omega) fun w Ω gw lw hB => ?_
  have law := len_isD w
  ((((repeat walk_at "zs"); (try conv => whnf)); (try simp only [startR, List.map_cons, List.map_nil, List.cons_append, List.nil_append, List.set_cons_succ, List.set_cons_zero, List.length_cons, List.length_nil, List.replicate_succ, List.replicate_zero, Nat.reduceAdd, Nat.reduceSub])))
  refine .mk hB (by omega) (bel (by omega) (by omega)) fun r2 Ω r20 r21 hB => ?_
  ((((repeat walk_at "zs"); (try conv => whnf)); (try simp only [startR, List.map_cons, List.map_nil, List.cons_append, List.nil_append, List.set_cons_succ, List.set_cons_zero, List.length_cons, List.length_nil, List.replicate_succ, List.replicate_zero, Nat.reduceAdd, Nat.reduceSub])))
  refine .mk hB (by simp) (by simp) fun d hd Ω hB => ?_
  obtain ⟨j, rfl, lj⟩ : ∃ j : Nat, d = .int (j : Nat) ∧ j < w.length := by
    simp only [List.mem_cons, List.not_mem_nil, or_false] at hd
    rcases hd with rfl | rfl | rfl
    · exact ⟨0, rfl, by omega⟩
    · exact ⟨(m - 1).toNat, by rw [Int.toNat_of_nonneg (by omega)], by omega⟩
    · exact ⟨r2.toNat, by rw [Int.toNat_of_nonneg r20], by omega⟩
  clear hd r20 r21
  ((((repeat walk_at "zs"); (try conv => whnf)); (try simp only [startR, List.map_cons, List.map_nil, List.cons_append, List.nil_append, List.set_cons_succ, List.set_cons_zero, List.length_cons, List.length_nil, List.replicate_succ, List.replicate_zero, Nat.reduceAdd, Nat.reduceSub])))
  refine .mk hB (by omega) (bel (by omega) (by omega)) fun r3 Ω r30 r31 hB => ?_
  obtain ⟨la, hla, lj2, lla⟩ : ∃ la : Nat, (j : Int) + r3 = (la : Nat) ∧ j ≤ la ∧ la < w.length := ⟨j + r3.toNat, by omega, by omega, by omega⟩
  have wl : w.length ≤ 1000 := by omega
  have dj := gw.d w[j] (List.getElem_mem lj)
  have hwj : w[j]? = some w[j] := List.getElem?_eq_getElem lj
  have ej : atI (isD w) (j : Int) = some (.int w[j]) := at_isD (by omega) (by rw [Int.toNat_natCast]; exact hwj)
  have c1 := cutD_len (isD w) none (some (j : Int))
  have c2 := cutD_len (isD w) (some ((j : Int) + 1)) none
  have c4 := cutD_len (isD w) none (some (la : Int))
  have c5 := cutD_len (isD w) (some ((la : Int) + 1)) none
  have ct1 : Z.cutD (isD w) none (some (j : Int)) = isD (w.take j) := by rw [cut_to_isD (by omega), Int.toNat_natCast]
  have ct2 : Z.cutD (isD w) (some ((j : Int) + 1)) none = isD (w.drop (j + 1)) := by rw [cut_from_isD (by omega), show ((j : Int) + 1).toNat = j + 1 by omega]
  have ct4 : Z.cutD (isD w) none (some (la : Int)) = isD (w.take la) := by rw [cut_to_isD (by omega), Int.toNat_natCast]
  have ct5 : Z.cutD (isD w) (some ((la : Int) + 1)) none = isD (w.drop (la + 1)) := by rw [cut_from_isD (by omega), show ((la : Int) + 1).toNat = la + 1 by omega]
  have asm : ∀ b : Int, isD (w.take j) ++ [PyData.int b] ++ isD (w.drop (j + 1)) = isD (w.take j ++ b :: w.drop (j + 1)) := fun b => by
    rw [List.append_assoc, ← app_isD]; rfl
  have asl : ∀ b : Int, (w.take j ++ b :: w.drop (j + 1)).length = w.length := fun b => by simp only [List.length_append, List.length_take, List.length_cons, List.length_drop]; omega
  have tk : ∀ (b : Int) (r : List Int), ∀ i ∈ (w.take j ++ b :: r).take j, 0 ≤ i ∧ i < p := fun b r i hi => by
    rw [List.take_append_of_le_length (by rw [List.length_take]; omega)] at hi
    exact gw.d i (List.mem_of_mem_take (List.mem_of_mem_take hi))
  have gt : ∀ (b : Int) (r : List Int), (w.take j ++ b :: r)[j]? = some b := fun b r => by
    rw [List.getElem?_append_right (by rw [List.length_take]; omega), List.length_take, show j - min j w.length = 0 by omega]; rfl
  have figs : ∀ b : Int, ¬ (0 ≤ b ∧ b < p) → El p q (.tuple [.list (Z.cutD (isD w) none (some (j : Int)) ++ [.int b] ++ Z.cutD (isD w) (some ((j : Int) + 1)) none), .tuple [.str "figure", .int (j : Nat)]]) := fun b hb => by
    rw [ct1, ct2, asm]
    exact el_fig (by rw [asl]; omega) (tk b _) (gt b _) hb
  ((((repeat walk_at "zs"); (try conv => whnf)); (try simp only [startR, List.map_cons, List.map_nil, List.cons_append, List.nil_append, List.set_cons_succ, List.set_cons_zero, List.length_cons, List.length_nil, List.replicate_succ, List.replicate_zero, Nat.reduceAdd, Nat.reduceSub])))
  rw [hla]
  refine ⟨fun y Ω' => y = .d (if m < 1000 then .str "nought" else .str "form") ∧ Bag x L R Ω', ?_, ?_⟩
  · refine br_d (fun z => ?_) fun z => ?_
    · ((repeat walk_at "zs"); (try conv => whnf))
      rw [if_pos z]
      exact ⟨rfl, hB⟩
    · ((repeat walk_at "zs"); (try conv => whnf))
      rw [if_neg z]
      exact ⟨rfl, hB⟩
  clear hB
  rintro y Ω ⟨rfl, hB⟩
  obtain ⟨l0, hl0⟩ : ∃ l0, l0 = [PyData.tuple [.list (isD w), .none], .tuple [.list (isD w ++ [.int 0]), if m < 1000 then .str "nought" else .str "form"], .tuple [.list (Z.cutD (isD w) none (some (j : Int)) ++ [.int p] ++ Z.cutD (isD w) (some ((j : Int) + 1)) none), .tuple [.str "figure", .int (j : Nat)]]] := ⟨_, rfl⟩
  have v3 : Els p q 3 l0 := by
    refine ⟨by rw [hl0]; simp, fun e he => ?_⟩
    rw [hl0] at he
    simp only [List.mem_cons, List.not_mem_nil, or_false] at he
    rcases he with rfl | rfl | rfl
    · exact .mk (by omega) (gw.jd wl)
    · by_cases z : m < 1000
      · rw [if_pos z]
        have := el_nought pq (is := w) (by rw [List.length_append]; simp; omega) gw.d
        rw [← app_isD] at this
        exact this
      · rw [if_neg z]
        exact el_long (by rw [List.length_append]; simp; omega) (by rw [List.length_append]; simp; omega)
    · exact figs p (by omega)
  ((repeat walk_at "zs"); (try conv => whnf))
  intro a fa
  refine gen_cell (l := [PyData.tuple [.list (isD w), .none], .tuple [.list (isD w ++ [.int 0]), if m < 1000 then .str "nought" else .str "form"], .tuple [.list (Z.cutD (isD w) none (some (j : Int)) ++ [.int p] ++ Z.cutD (isD w) (some ((j : Int) + 1)) none), .tuple [.str "figure", .int (j : Nat)]]]) (fun l => Els p q 3 l) (hl0 ▸ v3) ?_
  clear hl0 v3
  intro l vl
  have ll := vl.n
  have n1 : (10 : Int) ^ Int.toNat 30 = 10 ^ 30 := by decide +kernel
  ((((repeat walk_at "zs"); (try conv => whnf)); (try simp only [startR, List.map_cons, List.map_nil, List.cons_append, List.nil_append, List.set_cons_succ, List.set_cons_zero, List.length_cons, List.length_nil, List.replicate_succ, List.replicate_zero, Nat.reduceAdd, Nat.reduceSub])))
  refine .mk (hB.push _) (by simp) (by simp) fun d hd Ω hB => ?_
  obtain ⟨b5, rfl, hb5⟩ : ∃ b : Int, d = .int b ∧ ¬ (0 ≤ b ∧ b < p) := by
    rw [n1] at hd
    simp only [List.mem_cons, List.not_mem_nil, or_false] at hd
    rcases hd with rfl | rfl | rfl | rfl
    all_goals exact ⟨_, rfl, by omega⟩
  obtain ⟨Ω2, rfl, hC⟩ := hB.pop
  clear hB
  ((((repeat walk_at "zs"); (try conv => whnf)); (try simp only [startR, List.map_cons, List.map_nil, List.cons_append, List.nil_append, List.set_cons_succ, List.set_cons_zero, List.length_cons, List.length_nil, List.replicate_succ, List.replicate_zero, Nat.reduceAdd, Nat.reduceSub])))
  refine .mk (hC.push _) (by simp) (by simp) fun d hd Ω hB => ?_
  have bd6 : isI d = false := by
    simp only [List.mem_cons, List.not_mem_nil, or_false] at hd
    rcases hd with rfl | rfl | rfl | rfl | rfl
    all_goals rfl
  clear hd
  obtain ⟨Ω2, rfl, hC⟩ := hB.pop
  clear hB
  have mk6 := ((vl.app (figs (-1) (by omega))).app (figs b5 hb5)).app (el_form (p := p) (q := q) (ds := Z.cutD (isD w) none (some (j : Int)) ++ [d] ++ Z.cutD (isD w) (some ((j : Int) + 1)) none) (d := d) (by rw [ct1, ct2]; simp only [List.length_append, List.length_cons, List.length_nil, len_isD, List.length_take, List.length_drop]; omega) (by simp) bd6)
  ((((repeat walk_at "zs"); (try conv => whnf)); (try simp only [startR, List.map_cons, List.map_nil, List.cons_append, List.nil_append, List.set_cons_succ, List.set_cons_zero, List.length_cons, List.length_nil, List.replicate_succ, List.replicate_zero, Nat.reduceAdd, Nat.reduceSub])))
  refine ⟨fun y Ω' => ∃ (b : Int) (l : List PyData), y = I b ∧ (w[j] - b = 1 ∨ w[j] - b = -1) ∧ (0 ≤ b ∧ b < p) ∧ Els p q 6 l ∧ Bag x ((a, .lst l) :: L) R Ω', ?_, ?_⟩
  · ((repeat walk_at "zs"); (try conv => whnf))
    refine br_d (fun z => ?_) fun z => ?_
    · ((repeat walk_at "zs"); (try conv => whnf))
      refine br_d (fun z1 => ?_) fun z1 => ?_
      · ((repeat walk_at "zs"); (try conv => whnf))
        exact ⟨w[j] - 1, _, rfl, .inl (by omega), by omega, mk6, hC.push _⟩
      · ((repeat walk_at "zs"); (try conv => whnf))
        refine .mk (hC.push _) (by decide) (bel (by decide) (by decide)) fun r Ω r0 r1 hB => ?_
        obtain ⟨Ω3, rfl, hC⟩ := hB.pop
        ((repeat walk_at "zs"); (try conv => whnf))
        refine br_d (fun z2 => ?_) fun z2 => ?_
        · ((repeat walk_at "zs"); (try conv => whnf))
          exact ⟨w[j] - 1, _, rfl, .inl (by omega), by omega, mk6, hC.push _⟩
        · ((repeat walk_at "zs"); (try conv => whnf))
          exact ⟨w[j] + 1, _, rfl, .inr (by omega), by omega, mk6, hC.push _⟩
    · ((repeat walk_at "zs"); (try conv => whnf))
      exact ⟨w[j] + 1, _, rfl, .inr (by omega), by omega, mk6, hC.push _⟩
  clear mk6 vl ll hC bd6
  rintro y Ω ⟨nr, l, rfl, ab, db, vl, hB⟩
  have ll := vl.n
  obtain ⟨Ω2, rfl, hC⟩ := hB.pop
  clear hB
  ((((repeat walk_at "zs"); (try conv => whnf)); (try simp only [startR, List.map_cons, List.map_nil, List.cons_append, List.nil_append, List.set_cons_succ, List.set_cons_zero, List.length_cons, List.length_nil, List.replicate_succ, List.replicate_zero, Nat.reduceAdd, Nat.reduceSub])))
  refine ⟨fun ρ' Ω' => ∃ (l : List PyData), ρ' = [some x, some (I p), some (I q), some (I m), some (.d (.list (isD w))), some (.d (.int (j : Nat))), some (I (la : Nat)), some (.r (.ref a)), some (I nr), none, none, none, none] ∧ Els p q 7 l ∧ Bag x ((a, .lst l) :: L) R Ω', ?_, ?_⟩
  · have wh : j + 1 < w.length ∨ nr ≠ 0 → El p q (.tuple [.list (Z.cutD (isD w) none (some (j : Int)) ++ [.int nr] ++ Z.cutD (isD w) (some ((j : Int) + 1)) none), .str "whole"]) := fun h => by
      rw [ct1, ct2, asm]
      exact el_whole pq gw wl hwj ab db h
    ((repeat walk_at "zs"); (try conv => whnf))
    refine br_d (fun z => ?_) fun z => ?_
    · ((repeat walk_at "zs"); (try conv => whnf))
      exact ⟨_, by first | rfl | trivial, vl.app (wh (.inl (by omega))), hC.push _⟩
    · ((repeat walk_at "zs"); (try conv => whnf))
      refine br_d (fun z2 => ?_) fun z2 => ?_
      · ((repeat walk_at "zs"); (try conv => whnf))
        exact ⟨_, by first | rfl | trivial, vl.app (wh (.inr (by omega))), hC.push _⟩
      · ((repeat walk_at "zs"); (try conv => whnf))
        exact ⟨_, by first | rfl | trivial, vl.mono (by decide), hC.push _⟩
  clear vl ll hC
  rintro ρ Ω ⟨l, rfl, vl, hB⟩
  have ll := vl.n
  obtain ⟨Ω2, rfl, hC⟩ := hB.pop
  clear hB
  refine ⟨fun ρ' Ω' => ∃ (l : List PyData), ρ' = [some x, some (I p), some (I q), some (I m), some (.d (.list (isD w))), some (.d (.int (j : Nat))), some (I (la : Nat)), some (.r (.ref a)), some (I nr), none, none, none, none] ∧ Els p q 9 l ∧ Bag x ((a, .lst l) :: L) R Ω', ?_, ?_⟩
  · ((repeat walk_at "zs"); (try conv => whnf))
    refine br_d (fun z => ?_) fun z => ?_
    · ((repeat walk_at "zs"); (try conv => whnf))
      refine ⟨_, by first | rfl | trivial, (vl.app ?_).app ?_, hC.push _⟩
      · have := el_nought pq (is := w ++ [1]) (by simp only [List.length_append, List.length_cons, List.length_nil]; omega) fun i hi => by
          rcases List.mem_append.mp hi with hi | hi
          · exact gw.d i hi
          · obtain rfl := List.mem_singleton.mp hi
            omega
        rw [List.append_assoc, ← app_isD] at this
        exact this
      · rw [ct1, ct2, asm]
        have e0 : isD (w.take j ++ p :: w.drop (j + 1)) ++ [PyData.int 0] = isD (w.take j ++ p :: (w.drop (j + 1) ++ [0])) := by
          rw [show w.take j ++ p :: (w.drop (j + 1) ++ [0]) = (w.take j ++ p :: w.drop (j + 1)) ++ [0] by simp]; exact app_isD _ [0]
        rw [e0]
        exact el_fig (by simp only [List.length_append, List.length_take, List.length_cons, List.length_drop, List.length_nil]; omega) (tk p _) (gt p _) (by omega)
    · ((repeat walk_at "zs"); (try conv => whnf))
      exact ⟨_, by first | rfl | trivial, vl.mono (by decide), hC.push _⟩
  clear vl ll hC
  rintro ρ Ω ⟨l, rfl, vl, hB⟩
  have ll := vl.n
  obtain ⟨Ω2, rfl, hC⟩ := hB.pop
  clear hB
  have tw : Z.cutD (isD w) none (some (la : Int)) ++ [PyData.int (p + 7)] ++ Z.cutD (isD w) (some ((la : Int) + 1)) none = isD (w.take la ++ (p + 7) :: w.drop (la + 1)) := by
    rw [ct4, ct5, List.append_assoc, ← app_isD]; rfl
  have twl : (w.take la ++ (p + 7) :: w.drop (la + 1)).length = w.length := by simp only [List.length_append, List.length_take, List.length_cons, List.length_drop]; omega
  have tws : ((w.take la ++ (p + 7) :: w.drop (la + 1)).set j p).length = w.length := by rw [List.length_set, twl]
  have exj : ixN (isD (w.take la ++ (p + 7) :: w.drop (la + 1))).length (j : Int) = some j := ix_isD' (by omega)
  have exl : ixN (isD ((w.take la ++ (p + 7) :: w.drop (la + 1)).set j p)).length (la : Int) = some la := ix_isD' (by omega)
  have f10 : El p q (.tuple [.list (isD ((w.take la ++ (p + 7) :: w.drop (la + 1)).set j p)), .tuple [.str "figure", .int (j : Nat)]]) := by
    refine el_fig (a := p) (by omega) (fun i hi => ?_) (by rw [List.getElem?_set_self (by omega)]) (by omega)
    rw [List.take_set_of_le (Nat.le_refl j), List.take_append_of_le_length (by rw [List.length_take]; omega), List.take_take] at hi
    exact gw.d i (List.mem_of_mem_take hi)
  have f11 : El p q (.tuple [.list ((isD ((w.take la ++ (p + 7) :: w.drop (la + 1)).set j p)).set la (.bool true)), .str "form"]) := by
    refine el_form (d := .bool true) (by rw [List.length_set, len_isD]; omega) ?_ rfl
    refine List.mem_of_getElem? (i := la) ?_
    rw [List.getElem?_set_self (by rw [len_isD]; omega)]
  ((((repeat walk_at "zs"); (try conv => whnf)); (try simp only [startR, List.map_cons, List.map_nil, List.cons_append, List.nil_append, List.set_cons_succ, List.set_cons_zero, List.length_cons, List.length_nil, List.replicate_succ, List.replicate_zero, Nat.reduceAdd, Nat.reduceSub])))
  rw [tw]
  intro a2 fa2
  ((((repeat walk_at "zs"); (try conv => whnf)); (try simp only [startR, List.map_cons, List.map_nil, List.cons_append, List.nil_append, List.set_cons_succ, List.set_cons_zero, List.length_cons, List.length_nil, List.replicate_succ, List.replicate_zero, Nat.reduceAdd, Nat.reduceSub])))
  refine ⟨_, exj, ?_⟩
  rw [set_isD]
  ((((repeat walk_at "zs"); (try conv => whnf)); (try simp only [startR, List.map_cons, List.map_nil, List.cons_append, List.nil_append, List.set_cons_succ, List.set_cons_zero, List.length_cons, List.length_nil, List.replicate_succ, List.replicate_zero, Nat.reduceAdd, Nat.reduceSub])))
  refine ⟨_, .here, ?_⟩
  ((((repeat walk_at "zs"); (try conv => whnf)); (try simp only [startR, List.map_cons, List.map_nil, List.cons_append, List.nil_append, List.set_cons_succ, List.set_cons_zero, List.length_cons, List.length_nil, List.replicate_succ, List.replicate_zero, Nat.reduceAdd, Nat.reduceSub])))
  intro a3 fa3
  ((((repeat walk_at "zs"); (try conv => whnf)); (try simp only [startR, List.map_cons, List.map_nil, List.cons_append, List.nil_append, List.set_cons_succ, List.set_cons_zero, List.length_cons, List.length_nil, List.replicate_succ, List.replicate_zero, Nat.reduceAdd, Nat.reduceSub])))
  refine ⟨_, exl, ?_⟩
  ((((repeat walk_at "zs"); (try conv => whnf)); (try simp only [startR, List.map_cons, List.map_nil, List.cons_append, List.nil_append, List.set_cons_succ, List.set_cons_zero, List.length_cons, List.length_nil, List.replicate_succ, List.replicate_zero, Nat.reduceAdd, Nat.reduceSub])))
  refine ⟨_, .here, ?_⟩
  ((((repeat walk_at "zs"); (try conv => whnf)); (try simp only [startR, List.map_cons, List.map_nil, List.cons_append, List.nil_append, List.set_cons_succ, List.set_cons_zero, List.length_cons, List.length_nil, List.replicate_succ, List.replicate_zero, Nat.reduceAdd, Nat.reduceSub])))
  have v11 := (vl.app f10).app f11
  clear figs tk gt asm asl tw twl tws exj exl f10 f11 ct1 ct2 ct4 ct5 c1 c2 c4 c5
  generalize l ++ [PyData.tuple [.list (isD ((w.take la ++ (p + 7) :: w.drop (la + 1)).set j p)), .tuple [.str "figure", .int (j : Nat)]]] ++ [.tuple [.list ((isD ((w.take la ++ (p + 7) :: w.drop (la + 1)).set j p)).set la (.bool true)), .str "form"]] = l2 at *
  have sj := gw.jd wl
  refine ⟨fun i ρ Ω' => ∃ (r9 r10 : SV) (r11 r12 : Option SV), ρ = [some x, some (I p), some (I q), some (I m), some (.d (.list (isD w))), some (.d (.int (j : Nat))), some (I (la : Nat)), some (.r (.ref a)), some (I nr), some r9, some r10, r11, r12] ∧ Ω' = (a, .lst l2) :: Ω2, ⟨_, _, _, _, rfl, rfl⟩, fun _ _ _ ⟨_, _, _, _, _, e⟩ => by rw [e]; exact ⟨_, .here⟩, ?_, ?_⟩
  · rintro i y ρ Ω e ⟨r9, r10, r11, r12, rfl, rfl⟩
    obtain ⟨d, hd, rfl⟩ := get_mapD e
    obtain ⟨⟨ds, t, rfl, ld, jt⟩⟩ := v11.v d (List.mem_of_getElem? hd)
    have sb := sb_jd (p := p) (q := q) (.tuple ds)
    ((((repeat walk_at "zs"); (try conv => whnf)); (try simp only [startR, List.map_cons, List.map_nil, List.cons_append, List.nil_append, List.set_cons_succ, List.set_cons_zero, List.length_cons, List.length_nil, List.replicate_succ, List.replicate_zero, Nat.reduceAdd, Nat.reduceSub])))
    refine .mk pq (by show ds.length ≤ 2000; omega) ?_
    rw [jt] at sb ⊢
    ((((repeat walk_at "zs"); (try conv => whnf)); (try simp only [startR, List.map_cons, List.map_nil, List.cons_append, List.nil_append, List.set_cons_succ, List.set_cons_zero, List.length_cons, List.length_nil, List.replicate_succ, List.replicate_zero, Nat.reduceAdd, Nat.reduceSub])))
    refine .mk sb ?_
    ((repeat walk_at "zs"); (try conv => whnf))
    exact ⟨_, _, _, _, by first | rfl | trivial, rfl⟩
  · rintro ρ Ω ⟨r9, r10, r11, r12, rfl, rfl⟩
    have e2 : jd p q (.list (isD w)) = .str "form" := jd_not fun ds h => by cases h
    ((((repeat walk_at "zs"); (try conv => whnf)); (try simp only [startR, List.map_cons, List.map_nil, List.cons_append, List.nil_append, List.set_cons_succ, List.set_cons_zero, List.length_cons, List.length_nil, List.replicate_succ, List.replicate_zero, Nat.reduceAdd, Nat.reduceSub])))
    refine .mk pq (by show (isD w).length ≤ 2000; omega) ?_
    rw [sj]
    ((((repeat walk_at "zs"); (try conv => whnf)); (try simp only [startR, List.map_cons, List.map_nil, List.cons_append, List.nil_append, List.set_cons_succ, List.set_cons_zero, List.length_cons, List.length_nil, List.replicate_succ, List.replicate_zero, Nat.reduceAdd, Nat.reduceSub])))
    refine .mk sb_none ?_
    ((((repeat walk_at "zs"); (try conv => whnf)); (try simp only [startR, List.map_cons, List.map_nil, List.cons_append, List.nil_append, List.set_cons_succ, List.set_cons_zero, List.length_cons, List.length_nil, List.replicate_succ, List.replicate_zero, Nat.reduceAdd, Nat.reduceSub])))
    refine .mk pq trivial ?_
    rw [e2]
    ((((repeat walk_at "zs"); (try conv => whnf)); (try simp only [startR, List.map_cons, List.map_nil, List.cons_append, List.nil_append, List.set_cons_succ, List.set_cons_zero, List.length_cons, List.length_nil, List.replicate_succ, List.replicate_zero, Nat.reduceAdd, Nat.reduceSub])))
    refine .mk (sb_str (by decide +kernel)) ?_
    exact ⟨_, .cons _ (.refl _), k _ hC⟩
end
section
local macro_rules | `(tactic| walk_at "z1") => `(tactic| ((try dsimp only); first | done | exact True.intro | exact Nat.le_of_ble_eq_true rfl | (with_reducible assumption) | rfl | omega | (exact ⟨by omega, by omega⟩) | (exact cmul (by omega) (by omega) (by omega) (by omega)) | (exact cdiv (by omega) (by omega)) | (exact Or.inl ⟨by omega, by omega⟩) | (exact Or.inr ⟨by omega, by omega⟩) | decide | assumption | (simp only [List.length_map, List.length_range, List.length_append, List.length_cons, List.length_nil, List.length_replicate, len_repD]; omega)))
local macro_rules | `(tactic| walk_at "zs") => `(tactic| ((conv => whnf); first | with_reducible refine br_T ?_ | with_reducible refine br_F ?_ | with_reducible refine br_d1 rfl ?_ | with_reducible refine br_n ?_ | ((with_reducible refine br_d1 ?_ ?_); (focus omega)) | ((with_reducible refine br_d0 ?_ ?_); (focus omega)) | ((fail_if_success (fail_if_success (with_reducible refine br.mk ?_ ?_))); (fail_if_success with_reducible refine br_d ?_ ?_); first | refine br_T ?_ | refine br_F ?_) | ((fail_if_success (fail_if_success (with_reducible refine And.intro ?_ ?_))); first | refine And.intro (by walk_at "z1") ?_ | refine ⟨⟨_, _, .here, trivial⟩, ?_⟩) | ((fail_if_success (fail_if_success (with_reducible refine Exists.intro ?_ ?_))); first | refine ⟨_, _, .here, ?_⟩ | refine ⟨_, true, rfl, rfl, ?_⟩ | refine ⟨_, false, rfl, rfl, ?_⟩ | refine ⟨_, (by rfl : atI _ _ = some _), ?_⟩ | refine ⟨_, (by assumption : atI _ _ = some _), ?_⟩)))
theorem sL (n : Nat) : (1000000 : Nat) ≤ sizeLine := by decide
structure Sv (p q : Int) (d : PyData) : Prop where
  ln : lenOk d
  rz : Rz 2 20100 d
structure Svs (p q : Int) (n : Nat) (l : List PyData) : Prop where
  n : l.length ≤ n
  v : ∀ e ∈ l, Sv p q e
theorem sv_w {p q : Int} {is : List Int} (h : ∀ i ∈ is, -100 ≤ i ∧ i ≤ 100) (hn : is.length ≤ 6) : Sv p q (.tuple (isD is)) := ⟨by show (isD is).length ≤ 2000; rw [len_isD]; omega, (rz_w (fun i hi => ⟨Int.lt_of_lt_of_le (by decide) (h i hi).1, Int.lt_of_le_of_lt (h i hi).2 (by decide)⟩) hn).mono (by decide) (by decide)⟩
theorem w_l_are_short_judged (Fr : Addr → Prop) (svs : List SV) (Ω : Om) (Φ : PhiE) (Ξ : XA) (h : c_l_are_short_judged svs Ω Φ Ξ) :
    a_l_are_short_judged Fr { nx := fun _ Ω => Φ (.d .none) Ω, rt := Φ } (startR N_l_are_short_judged svs) Ω := by
  obtain ⟨hB, pq, k⟩ := h
  rename_i x L R p q
  have q2 := pq.q2
  have qp := pq.qp
  have p10 := pq.p10
  have s1 : (100000 : Nat) ≤ sizeLine := by decide
  conv => whnf
  refine ⟨fun ρ' Ω' => ∃ (r3 : Option SV), ρ' = [some x, some (I p), some (I q), r3, none, none, none, none, none, none, none] ∧ Bag x L R Ω', ?_, ?_⟩
  · ((repeat walk_at "zs"); (try conv => whnf))
    refine .mk hB (by decide) (bel (by decide) (by decide)) fun r Ω r0 r1 hB => ?_
    ((repeat walk_at "zs"); (try conv => whnf))
    refine br_d (fun z => ?_) fun z => ?_
    · ((repeat walk_at "zs"); (try conv => whnf))
      refine .mk hB pq (by decide) (by decide) fun w Ω gw lw hB => ?_
      have law := len_isD w
      have g2 : Gn' p q (w.drop 1) := by
        refine ⟨fun i hi => gw.d i (List.mem_of_mem_drop hi), fun e => ?_, ?_⟩
        · rw [List.getLast?_drop, if_neg (by omega)] at e
          exact gw.l e
        · obtain ⟨m, hm⟩ := gw.v
          rw [← List.take_append_drop 1 w] at hm
          exact wn_tail hm
      have cd1 : Z.cutD (isD w) (some 1) none = isD (w.drop 1) := cut_from_isD (by decide)
      have j2 := g2.jd (by rw [List.length_drop]; omega)
      ((repeat walk_at "zs"); (try conv => whnf))
      refine .mk pq (by show (isD w).length ≤ 2000; omega) ?_
      rw [jd_long (by omega)]
      ((repeat walk_at "zs"); (try conv => whnf))
      refine .mk (sb_str (by decide +kernel)) ?_
      ((repeat walk_at "zs"); (try conv => whnf))
      rw [cd1]
      refine .mk pq (by show (isD _).length ≤ 2000; rw [len_isD, List.length_drop]; omega) ?_
      rw [j2]
      ((repeat walk_at "zs"); (try conv => whnf))
      refine .mk sb_none ?_
      ((repeat walk_at "zs"); (try conv => whnf))
      exact ⟨_, by first | rfl | trivial, hB⟩
    · ((repeat walk_at "zs"); (try conv => whnf))
      exact ⟨_, by first | rfl | trivial, hB⟩
  clear hB
  rintro ρ Ω ⟨r3, rfl, hB⟩
  ((repeat walk_at "zs"); (try conv => whnf))
  intro a fa
  have sv1 : ∀ i : Int, -100 ≤ i ∧ i ≤ 100 → Sv p q (.tuple (isD [i])) := fun i h => sv_w (fun j hj => by obtain rfl := List.mem_singleton.mp hj; exact h) (by simp)
  have sv2 : ∀ i j : Int, -100 ≤ i ∧ i ≤ 100 → -100 ≤ j ∧ j ≤ 100 → Sv p q (.tuple (isD [i, j])) := fun i j h h' => sv_w (fun z hz => by
    simp only [List.mem_cons, List.not_mem_nil, or_false] at hz
    rcases hz with rfl | rfl
    · exact h
    · exact h') (by simp)
  have v0 : ∀ e ∈ [PyData.tuple [], .tuple [.int q], .tuple [.int 0], .tuple [.int 1], .tuple [.int (p - 1), .int q], .tuple [.int 0, .int 0]], Sv p q e := fun e he => by
    simp only [List.mem_cons, List.not_mem_nil, or_false] at he
    rcases he with rfl | rfl | rfl | rfl | rfl | rfl
    · exact sv_w (is := []) (by simp) (by simp)
    · exact sv1 q (by omega)
    · exact sv1 0 (by omega)
    · exact sv1 1 (by omega)
    · exact sv2 (p - 1) q (by omega) (by omega)
    · exact sv2 0 0 (by omega) (by omega)
  ((((repeat walk_at "zs"); (try conv => whnf)); (try simp only [startR, List.map_cons, List.map_nil, List.cons_append, List.nil_append, List.set_cons_succ, List.set_cons_zero, List.length_cons, List.length_nil, List.replicate_succ, List.replicate_zero, Nat.reduceAdd, Nat.reduceSub])))
  refine ⟨fun i ρ Ω' => ∃ (l : List PyData) (r5 r6 r7 : Option SV), ρ = [some x, some (I p), some (I q), r3, some (.r (.ref a)), r5, r6, r7, none, none, none] ∧ Svs p q (6 + i) l ∧ Bag x ((a, .lst l) :: L) R Ω', ⟨_, _, _, _, rfl, ⟨by simp, fun e he => v0 e he⟩, hB.push _⟩, fun _ _ _ _ => trivial, ?_, ?_⟩
  · clear hB
    rintro i y ρ Ω e ⟨l, r5, r6, r7, rfl, vl, hB⟩
    obtain ⟨rfl, lt⟩ := rgS_get e
    have lt : i < 8 := lt
    have ll := vl.n
    ((((repeat walk_at "zs"); (try conv => whnf)); (try simp only [startR, List.map_cons, List.map_nil, List.cons_append, List.nil_append, List.set_cons_succ, List.set_cons_zero, List.length_cons, List.length_nil, List.replicate_succ, List.replicate_zero, Nat.reduceAdd, Nat.reduceSub])))
    refine .mk hB (by simp) (by simp) fun d hd Ω hB => ?_
    obtain ⟨lo, hi, rfl, l0, l1, h0, h1⟩ : ∃ lo hi : Int, d = .tuple [.int lo, .int hi] ∧ -1 ≤ lo ∧ lo ≤ 0 ∧ p ≤ hi ∧ hi ≤ p + 1 := by
      simp only [List.mem_cons, List.not_mem_nil, or_false] at hd
      rcases hd with rfl | rfl | rfl
      all_goals exact ⟨_, _, rfl, by omega, by omega, by omega, by omega⟩
    clear hd
    ((((repeat walk_at "zs"); (try conv => whnf)); (try simp only [startR, List.map_cons, List.map_nil, List.cons_append, List.nil_append, List.set_cons_succ, List.set_cons_zero, List.length_cons, List.length_nil, List.replicate_succ, List.replicate_zero, Nat.reduceAdd, Nat.reduceSub])))
    obtain ⟨Ω2, rfl, hC⟩ := hB.pop
    clear hB
    refine ⟨⟨_, _, .here, trivial⟩, ?_⟩
    ((((repeat walk_at "zs"); (try conv => whnf)); (try simp only [startR, List.map_cons, List.map_nil, List.cons_append, List.nil_append, List.set_cons_succ, List.set_cons_zero, List.length_cons, List.length_nil, List.replicate_succ, List.replicate_zero, Nat.reduceAdd, Nat.reduceSub])))
    refine .mk (hC.push _) (by decide) (bel (by decide) (by decide)) fun r Ω r0 r1 hB => ?_
    ((((repeat walk_at "zs"); (try conv => whnf)); (try simp only [startR, List.map_cons, List.map_nil, List.cons_append, List.nil_append, List.set_cons_succ, List.set_cons_zero, List.length_cons, List.length_nil, List.replicate_succ, List.replicate_zero, Nat.reduceAdd, Nat.reduceSub])))
    refine lc_relI (fun _ z => -1 ≤ z ∧ z ≤ 11) (fun Ω' => Bag x ((a, .lst l) :: L) R Ω') (by rw [rgS_len]; omega) hB (fun _ _ => trivial) (fun i2 y Ω Y N e hB kk => ?_) fun js Ω hn hP hB => ?_
    · ((repeat walk_at "zs"); (try conv => whnf))
      refine .mk hB (by omega) (bel (by omega) (by omega)) fun r Ω r0 r1 hB => ?_
      ((repeat walk_at "zs"); (try conv => whnf))
      exact kk _ _ ⟨by omega, by omega⟩ hB
    rw [rgS_len] at hn
    obtain ⟨Ω2, rfl, hC⟩ := hB.pop
    ((((repeat walk_at "zs"); (try conv => whnf)); (try simp only [startR, List.map_cons, List.map_nil, List.cons_append, List.nil_append, List.set_cons_succ, List.set_cons_zero, List.length_cons, List.length_nil, List.replicate_succ, List.replicate_zero, Nat.reduceAdd, Nat.reduceSub])))
    refine ⟨_, _, _, _, rfl, ⟨by rw [List.length_append]; simp only [List.length_cons, List.length_nil]; omega, fun e he => ?_⟩, hC.push _⟩
    rcases List.mem_append.mp he with he | he
    · exact vl.v e he
    · obtain rfl := List.mem_singleton.mp he
      refine sv_w (fun z hz => ?_) (by omega)
      obtain ⟨u, hu, rfl⟩ := List.mem_iff_getElem.mp hz
      have := hP u _ (List.getElem?_eq_getElem hu)
      omega
  clear hB
  rintro ρ Ω ⟨l, r5, r6, r7, rfl, vl, hB⟩
  have ll : l.length ≤ 14 := vl.n
  obtain ⟨Ω2, rfl, hC⟩ := hB.pop
  clear hB
  have q19 : q.natAbs.log2 < 1920 := by
    have := log2_lt (nat_bd (i := q) (k := 240) (Int.lt_of_lt_of_le (by decide) q2) (Int.lt_trans qp (Int.lt_of_le_of_lt p10 (by decide)))) (by decide)
    omega
  ((((repeat walk_at "zs"); (try conv => whnf)); (try simp only [startR, List.map_cons, List.map_nil, List.cons_append, List.nil_append, List.set_cons_succ, List.set_cons_zero, List.length_cons, List.length_nil, List.replicate_succ, List.replicate_zero, Nat.reduceAdd, Nat.reduceSub])))
  have v2 : ∀ e ∈ l ++ [PyData.none, .bool true, .int 0, .int q, .str "form", .str (Str.ofString (toString q)), .list [], .list [.int q], .dict [], .tuple [.tuple [.int q]], .tuple [.none], .tuple [.bool true], .tuple [.int q, .bool true], .tuple [.int 1, .bool false]], Sv p q e := by
    have qi : Rz 0 2000 (.int q) := rz_i (Int.lt_of_lt_of_le (by decide) q2) (Int.lt_trans qp (Int.lt_of_le_of_lt p10 (by decide)))
    have tup1 : ∀ d, Rz 0 2000 d → Sv p q (.tuple [d]) := fun d h => ⟨by show 1 ≤ 2000; decide, (rz_tup (n := 1) (fun e he => by obtain rfl := List.mem_singleton.mp he; exact h) (by simp)).mono (by decide) (by decide)⟩
    have tup2 : ∀ d d', Rz 0 2000 d → Rz 0 2000 d' → Sv p q (.tuple [d, d']) := fun d d' h h' => ⟨by show 2 ≤ 2000; decide, (rz_tup (n := 2) (k := 0) (L := 2000) (fun e he => by
      simp only [List.mem_cons, List.not_mem_nil, or_false] at he
      rcases he with rfl | rfl
      · exact h
      · exact h') (by simp)).mono (by decide) (by decide)⟩
    intro e he
    rcases List.mem_append.mp he with he | he
    · exact vl.v e he
    · simp only [List.mem_cons, List.not_mem_nil, or_false] at he
      rcases he with rfl | rfl | rfl | rfl | rfl | rfl | rfl | rfl | rfl | rfl | rfl | rfl | rfl | rfl
      · exact ⟨trivial, rz_none.mono (by decide) (by decide)⟩
      · exact ⟨trivial, rz_bool.mono (by decide) (by decide)⟩
      · exact ⟨trivial, (rz_i (by decide) (by decide)).mono (by decide) (by decide)⟩
      · exact ⟨trivial, qi.mono (by decide) (by decide)⟩
      · exact ⟨trivial, (rz_str (by decide +kernel)).mono (by decide) (by decide)⟩
      · exact ⟨trivial, (rz_text q19).mono (by decide) (by decide)⟩
      · exact ⟨trivial, (rz_lst (k := 0) (L := 2000) (n := 0) (ds := []) (by simp) (by simp)).mono (by decide) (by decide)⟩
      · exact ⟨trivial, (rz_lst (k := 0) (L := 2000) (n := 1) (ds := [.int q]) (fun e he => by obtain rfl := List.mem_singleton.mp he; exact qi) (by simp)).mono (by decide) (by decide)⟩
      · exact ⟨trivial, rz_dict0.mono (by decide) (by decide)⟩
      · exact ⟨by show 1 ≤ 2000; decide, (rz_tup (n := 1) (k := 1) (L := 2006) (ds := [.tuple [.int q]]) (fun e he => by
          obtain rfl := List.mem_singleton.mp he
          exact (rz_tup (n := 1) (k := 0) (L := 2000) (ds := [.int q]) (fun e he => by obtain rfl := List.mem_singleton.mp he; exact qi) (by simp)).mono (by decide) (by decide)) (by simp)).mono (by decide) (by decide)⟩
      · exact tup1 _ rz_none
      · exact tup1 _ rz_bool
      · exact tup2 _ _ qi rz_bool
      · exact tup2 _ _ (rz_i (by decide) (by decide)) rz_bool
  have ln2 : (l ++ [PyData.none, .bool true, .int 0, .int q, .str "form", .str (Str.ofString (toString q)), .list [], .list [.int q], .dict [], .tuple [.tuple [.int q]], .tuple [.none], .tuple [.bool true], .tuple [.int q, .bool true], .tuple [.int 1, .bool false]]).length ≤ 30 := by rw [List.length_append]; simp only [List.length_cons, List.length_nil]; omega
  have rp := (rz_lst (k := 2) (L := 20100) (n := 30) (fun e he => (v2 e he).rz) ln2).repr (by decide) (by decide)
  ((((repeat walk_at "zs"); (try conv => whnf)); (try simp only [startR, List.map_cons, List.map_nil, List.cons_append, List.nil_append, List.set_cons_succ, List.set_cons_zero, List.length_cons, List.length_nil, List.replicate_succ, List.replicate_zero, Nat.reduceAdd, Nat.reduceSub])))
  refine ⟨rp.1, rp.2.1, rp.2.2, ?_⟩
  ((((repeat walk_at "zs"); (try conv => whnf)); (try simp only [startR, List.map_cons, List.map_nil, List.cons_append, List.nil_append, List.set_cons_succ, List.set_cons_zero, List.length_cons, List.length_nil, List.replicate_succ, List.replicate_zero, Nat.reduceAdd, Nat.reduceSub])))
  generalize l ++ [PyData.none, .bool true, .int 0, .int q, .str "form", .str (Str.ofString (toString q)), .list [], .list [.int q], .dict [], .tuple [.tuple [.int q]], .tuple [.none], .tuple [.bool true], .tuple [.int q, .bool true], .tuple [.int 1, .bool false]] = l2 at *
  clear vl ll sv1 sv2 v0
  obtain ⟨k2, hk⟩ : ∃ k2, k2 = (PyData.list l2).shown := ⟨_, rfl⟩
  rw [← hk]
  refine ⟨fun i ρ Ω' => ∃ (r9 : Option SV), ρ = [some x, some (I p), some (I q), r3, some (.r (.ref a)), r5, r6, r7, some (.d (.str k2)), r9, none] ∧ Ω' = (a, .lst l2) :: Ω2, ⟨_, rfl, rfl⟩, fun _ _ _ ⟨_, _, e⟩ => by rw [e]; exact ⟨_, .here⟩, ?_, ?_⟩
  · rintro i y ρ Ω e ⟨r9, rfl, rfl⟩
    obtain ⟨d, hd, rfl⟩ := get_mapD e
    ((((repeat walk_at "zs"); (try conv => whnf)); (try simp only [startR, List.map_cons, List.map_nil, List.cons_append, List.nil_append, List.set_cons_succ, List.set_cons_zero, List.length_cons, List.length_nil, List.replicate_succ, List.replicate_zero, Nat.reduceAdd, Nat.reduceSub])))
    refine .mk pq (v2 d (List.mem_of_getElem? hd)).ln ?_
    ((((repeat walk_at "zs"); (try conv => whnf)); (try simp only [startR, List.map_cons, List.map_nil, List.cons_append, List.nil_append, List.set_cons_succ, List.set_cons_zero, List.length_cons, List.length_nil, List.replicate_succ, List.replicate_zero, Nat.reduceAdd, Nat.reduceSub])))
    refine .mk pq (v2 d (List.mem_of_getElem? hd)).ln ?_
    ((((repeat walk_at "zs"); (try conv => whnf)); (try simp only [startR, List.map_cons, List.map_nil, List.cons_append, List.nil_append, List.set_cons_succ, List.set_cons_zero, List.length_cons, List.length_nil, List.replicate_succ, List.replicate_zero, Nat.reduceAdd, Nat.reduceSub])))
    refine .mk (sb_jd _) ?_
    ((((repeat walk_at "zs"); (try conv => whnf)); (try simp only [startR, List.map_cons, List.map_nil, List.cons_append, List.nil_append, List.set_cons_succ, List.set_cons_zero, List.length_cons, List.length_nil, List.replicate_succ, List.replicate_zero, Nat.reduceAdd, Nat.reduceSub])))
    exact ⟨_, by first | rfl | trivial, by first | rfl | trivial⟩
  · rintro ρ Ω ⟨r9, rfl, rfl⟩
    ((((repeat walk_at "zs"); (try conv => whnf)); (try simp only [startR, List.map_cons, List.map_nil, List.cons_append, List.nil_append, List.set_cons_succ, List.set_cons_zero, List.length_cons, List.length_nil, List.replicate_succ, List.replicate_zero, Nat.reduceAdd, Nat.reduceSub])))
    refine ⟨rp.1, rp.2.1, rp.2.2, ?_⟩
    rw [← hk]
    ((((repeat walk_at "zs"); (try conv => whnf)); (try simp only [startR, List.map_cons, List.map_nil, List.cons_append, List.nil_append, List.set_cons_succ, List.set_cons_zero, List.length_cons, List.length_nil, List.replicate_succ, List.replicate_zero, Nat.reduceAdd, Nat.reduceSub])))
    exact ⟨_, .cons _ (.refl _), k _ hC⟩
end
section
local macro_rules | `(tactic| walk_at "z1") => `(tactic| ((try dsimp only); first | done | exact True.intro | exact Nat.le_of_ble_eq_true rfl | (with_reducible assumption) | rfl | omega | (exact ⟨by omega, by omega⟩) | (exact cmul (by omega) (by omega) (by omega) (by omega)) | (exact cdiv (by omega) (by omega)) | (exact Or.inl ⟨by omega, by omega⟩) | (exact Or.inr ⟨by omega, by omega⟩) | decide | assumption | (simp only [List.length_map, List.length_range, List.length_append, List.length_cons, List.length_nil, List.length_replicate, len_repD]; omega)))
local macro_rules | `(tactic| walk_at "zs") => `(tactic| ((conv => whnf); first | with_reducible refine br_T ?_ | with_reducible refine br_F ?_ | with_reducible refine br_d1 rfl ?_ | with_reducible refine br_n ?_ | ((with_reducible refine br_d1 ?_ ?_); (focus omega)) | ((with_reducible refine br_d0 ?_ ?_); (focus omega)) | ((fail_if_success (fail_if_success (with_reducible refine br.mk ?_ ?_))); (fail_if_success with_reducible refine br_d ?_ ?_); first | refine br_T ?_ | refine br_F ?_) | ((fail_if_success (fail_if_success (with_reducible refine And.intro ?_ ?_))); first | refine And.intro (by walk_at "z1") ?_ | refine ⟨⟨_, _, .here, trivial⟩, ?_⟩) | ((fail_if_success (fail_if_success (with_reducible refine Exists.intro ?_ ?_))); first | refine ⟨_, _, .here, ?_⟩ | refine ⟨_, true, rfl, rfl, ?_⟩ | refine ⟨_, false, rfl, rfl, ?_⟩ | refine ⟨_, (by rfl : atI _ _ = some _), ?_⟩ | refine ⟨_, (by assumption : atI _ _ = some _), ?_⟩)))
theorem prd_fst (p : Int × Int) : prd p = .tuple [.int p.1, .int p.2] := rfl
theorem w_law (Fr : Addr → Prop) (svs : List SV) (Ω : Om) (Φ : PhiE) (Ξ : XA) (h : c_law svs Ω Φ Ξ) :
    a_law Fr { nx := fun _ Ω => Φ (.d .none) Ω, rt := Φ } (startR N_law svs) Ω := by
  obtain ⟨ok, k⟩ := h
  rename_i ns
  conv => whnf
  refine .mk ok fun x Ω hB => ?_
  ((repeat walk_at "zs"); (try conv => whnf))
  refine .mk fun l ne ln al => ?_
  ((repeat walk_at "zs"); (try conv => whnf))
  refine .mk hB ne (Nat.lt_of_le_of_lt ln (by decide)) fun d hd Ω hB => ?_
  obtain ⟨p, q, rfl, pq⟩ := al d hd
  clear hd
  ((repeat walk_at "zs"); (try conv => whnf))
  refine .mk hB ne (Nat.lt_of_le_of_lt ln (by decide)) fun d hd Ω hB => ?_
  obtain ⟨r, s, rfl, rs⟩ := al d hd
  clear hd
  clear al ne ln
  ((repeat walk_at "zs"); (try conv => whnf))
  refine .mk hB pq rs fun Ω hB => ?_
  ((repeat walk_at "zs"); (try conv => whnf))
  refine .mk hB pq fun Ω hB => ?_
  ((repeat walk_at "zs"); (try conv => whnf))
  refine .mk hB pq fun Ω hB => ?_
  ((repeat walk_at "zs"); (try conv => whnf))
  refine .mk hB pq fun Ω hB => ?_
  ((repeat walk_at "zs"); (try conv => whnf))
  refine .mk hB rs pq fun Ω hB => ?_
  ((repeat walk_at "zs"); (try conv => whnf))
  refine .mk hB rs fun Ω hB => ?_
  ((repeat walk_at "zs"); (try conv => whnf))
  refine .mk hB (by simp) (by simp) fun d hd Ω hB => ?_
  obtain ⟨a, b, rfl, ab⟩ : ∃ a b, d = prd (a, b) ∧ PQ a b := by
    simp only [List.mem_cons, List.not_mem_nil, or_false] at hd
    rcases hd with rfl | rfl
    · exact ⟨_, _, rfl, pq⟩
    · exact ⟨_, _, rfl, rs⟩
  clear hd
  ((repeat walk_at "zs"); (try conv => whnf))
  refine .mk hB ab fun Ω hB => ?_
  ((repeat walk_at "zs"); (try conv => whnf))
  refine .mk hB ab fun Ω hB => ?_
  ((repeat walk_at "zs"); (try conv => whnf))
  exact k _
end
theorem d_is_number {P : Program} {w : World} {K : PySem.W.Frag} {mg : Str → Option Value} {base : Heap} {f : Addr} {cdv : Value} {A : Around} {outer : List Env} {s : Shared} {H : Hp} {E : XK} {G : Gn} (T : Top K mg) (hgd : A.guards = some [])
    (hr : Room 0 (A.deeper (envOfC "is_number" (defScope s_is_number) s.heap.objs.size f cdv))) :
    JSs (cxOf CX0 P w K mg base N_is_number "is_number" (defScope s_is_number) f cdv A outer s H E).nox G (defBody s_is_number) (a_is_number fun p => G.H0 p = none) :=
    (jss_one (js_ret (je_and (je_callB jc_isi rfl T.n_isinstance (by decide +kernel) (ja_cons (je_var (pv 0)) (ja_cons (je_raw (v := .ty "int") (pe_bltn rfl T.n_int (by decide +kernel) rfl)) ja_nil))) (je_one (je_not (je_callB jc_isi rfl T.n_isinstance (by decide +kernel) (ja_cons (je_var (pv 0)) (ja_cons (je_raw (v := .ty "bool") (pe_bltn rfl T.n_bool (by decide +kernel) rfl)) ja_nil))))))))
theorem ok_is_number {P : Program} {w : World} {K : PySem.W.Frag} {mg : Str → Option Value} {base : Heap} (T : Top K mg) : FnG P w K mg base CX0 1 T.f_is_number T.fd_is_number ["value"] (spOf K c_is_number) :=
  fn_ok0 (k := 0) T.F_is_number sc_is_number ari_is_number (fun cdv A outer s H E G hgd hr => d_is_number T hgd hr) w_is_number
theorem d_trimmed {P : Program} {w : World} {K : PySem.W.Frag} {mg : Str → Option Value} {base : Heap} {f : Addr} {cdv : Value} {A : Around} {outer : List Env} {s : Shared} {H : Hp} {E : XK} {G : Gn} (T : Top K mg) (hgd : A.guards = some [])
    (hr : Room 0 (A.deeper (envOfC "trimmed" (defScope s_trimmed) s.heap.objs.size f cdv))) :
    JSs (cxOf CX0 P w K mg base N_trimmed "trimmed" (defScope s_trimmed) f cdv A outer s H E).nox G (defBody s_trimmed) (a_trimmed fun p => G.H0 p = none) :=
    (jss_cons (js_set (i := 1) sc_trimmed.nd rfl (Or.inl rfl) (je_callB jc_len rfl T.n_len (by decide +kernel) (ja_cons (je_var (pv 0)) ja_nil)))
    (jss_cons (js_while PassesOwn.never (jw_pt (jw_and (jt_cmp jo_gt (je_var (pv 1)) je_int (nomark _)) (jw_and1 (jt_cmp (jo_eq hr.units) (je_ix jx_seq (je_var (pv 0)) (je_bin jo_sub (je_var (pv 1)) je_int) (fun _ _ => rfl)) je_int (nomark _))))) (jss_one (js_set (i := 1) sc_trimmed.nd rfl (Or.inl rfl) (je_bin jo_sub (je_var (pv 1)) je_int))))
    (jss_one (js_ret (je_callTy jc_tupleOf rfl T.n_tuple (by decide +kernel) (ja_cons (je_sl mok0 (je_var (pv 0)) jp_none (jp_some (je_var (pv 1)))) ja_nil))))))
theorem ok_trimmed {P : Program} {w : World} {K : PySem.W.Frag} {mg : Str → Option Value} {base : Heap} (T : Top K mg) : FnG P w K mg base CX0 1 T.f_trimmed T.fd_trimmed ["word"] (spOf K c_trimmed) :=
  fn_ok0 (k := 0) T.F_trimmed sc_trimmed ari_trimmed (fun cdv A outer s H E G hgd hr => d_trimmed T hgd hr) w_trimmed
theorem d_broken_figures {P : Program} {w : World} {K : PySem.W.Frag} {mg : Str → Option Value} {base : Heap} {f : Addr} {cdv : Value} {A : Around} {outer : List Env} {s : Shared} {H : Hp} {E : XK} {G : Gn} (T : Top K mg) (hgd : A.guards = some [])
    (hr : Room 0 (A.deeper (envOfC "broken_figures" (defScope s_broken_figures) s.heap.objs.size f cdv))) :
    JSs (cxOf CX0 P w K mg base N_broken_figures "broken_figures" (defScope s_broken_figures) f cdv A outer s H E).nox G (defBody s_broken_figures) (a_broken_figures fun p => G.H0 p = none) :=
    (jss_cons (js_set (i := 3) sc_broken_figures.nd rfl (Or.inl rfl) (je_lst mok1 ja_nil))
    (jss_cons (js_while PassesOwn.never (jt_cmp jo_gt (je_var (pv 0)) je_int (nomark _)) (jss_cons (js_expr (je_ml PySem.F.slot_list_append PySem.F.type_list_append jm_append (je_var (pv 3)) (ja_cons (je_bin jo_mod (je_bin jo_mulI (je_var (pv 2)) (je_var (pv 0))) (je_var (pv 1))) ja_nil)))
    (jss_one (js_set (i := 0) sc_broken_figures.nd rfl (Or.inl rfl) (je_bin jo_div (je_bin jo_mulI (je_var (pv 2)) (je_var (pv 0))) (je_var (pv 1)))))))
    (jss_one (js_retD (je_callTy jc_tupleOf rfl T.n_tuple (by decide +kernel) (ja_cons (je_var (pv 3)) ja_nil))))))
theorem ok_broken_figures {P : Program} {w : World} {K : PySem.W.Frag} {mg : Str → Option Value} {base : Heap} (T : Top K mg) : FnG P w K mg base CX0 1 T.f_broken_figures T.fd_broken_figures ["number", "p", "q"] (spOf K c_broken_figures) :=
  fn_ok0 (k := 0) T.F_broken_figures sc_broken_figures ari_broken_figures (fun cdv A outer s H E G hgd hr => d_broken_figures T hgd hr) w_broken_figures
theorem d_broken_value {P : Program} {w : World} {K : PySem.W.Frag} {mg : Str → Option Value} {base : Heap} {f : Addr} {cdv : Value} {A : Around} {outer : List Env} {s : Shared} {H : Hp} {E : XK} {G : Gn} (T : Top K mg) (hgd : A.guards = some [])
    (hr : Room 0 (A.deeper (envOfC "broken_value" (defScope s_broken_value) s.heap.objs.size f cdv))) :
    JSs (cxOf CX0 P w K mg base N_broken_value "broken_value" (defScope s_broken_value) f cdv A outer s H E).nox G (defBody s_broken_value) (a_broken_value fun p => G.H0 p = none) :=
    (jss_cons (js_asg (je_tup (ja_cons je_int (ja_cons je_int ja_nil))) (jg_tup rfl (jgs1 (jg_name (i := 3) sc_broken_value.nd rfl (Or.inl rfl)) (jgs1 (jg_name (i := 4) sc_broken_value.nd rfl (Or.inl rfl)) jgs0))))
    (jss_cons (js_for PassesOwn.never rfl (ji_of (je_rev2 mok0 (je_var (pv 0)))) (jg_name (i := 5) sc_broken_value.nd rfl (Or.inl rfl)) (jss_one (js_par2 (i := 3) (j := 4) rfl sc_broken_value.nd rfl rfl (by decide) rfl rfl (ja_cons (je_bin (jo_add mok0) (je_bin jo_mulI (je_var (pv 5)) (je_var (pv 4))) (je_bin jo_mulI (je_var (pv 1)) (je_var (pv 3)))) (ja_cons (je_bin jo_mulI (je_var (pv 2)) (je_var (pv 4))) ja_nil)) rfl)))
    (jss_cons (js_set (i := 6) sc_broken_value.nd rfl (Or.inl rfl) (je_callGB jc_gcd rfl T.i_gcd (ja_cons (je_var (pv 3)) (ja_cons (je_var (pv 4)) ja_nil))))
    (jss_one (js_ret (je_tup (ja_cons (je_bin jo_div (je_var (pv 3)) (je_var (pv 6))) (ja_cons (je_bin jo_div (je_var (pv 4)) (je_var (pv 6))) ja_nil))))))))
theorem ok_broken_value {P : Program} {w : World} {K : PySem.W.Frag} {mg : Str → Option Value} {base : Heap} (T : Top K mg) : FnG P w K mg base CX0 1 T.f_broken_value T.fd_broken_value ["word", "p", "q"] (spOf K c_broken_value) :=
  fn_ok0 (k := 0) T.F_broken_value sc_broken_value ari_broken_value (fun cdv A outer s H E G hgd hr => d_broken_value T hgd hr) w_broken_value
theorem d_l_own_bag {P : Program} {w : World} {K : PySem.W.Frag} {mg : Str → Option Value} {base : Heap} {f : Addr} {cdv : Value} {A : Around} {outer : List Env} {s : Shared} {H : Hp} {E : XK} {G : Gn} (T : Top K mg) (hgd : A.guards = some [])
    (hr : Room 0 (A.deeper (envOfC "_law_own_bag" (defScope s_l_own_bag) s.heap.objs.size f cdv))) :
    JSs (cxOf CX0 P w K mg base N_l_own_bag "_law_own_bag" (defScope s_l_own_bag) f cdv A outer s H E).nox G (defBody s_l_own_bag) (a_l_own_bag fun p => G.H0 p = none) :=
    (jss_cons (lc2s (js_setLc mok0 rfl sc_l_own_bag.nd rfl rfl (sw_true rfl rfl rfl (by decide +kernel)) (ji_of (je_sl mok0 (je_var (pv 0)) jp_none (jp_some je_int))) (blkOk_by (own := [("cell", 3)]) (N := N_l_own_bag) (sc := defScope s_l_own_bag) (by decide +kernel)) (fun _ => (jgo_name (i := 3) (by first | decide | simp) sc_l_own_bag.nd rfl (Or.inl rfl))) (fun _ => jts_nil) (fun _ => (je_callB jc_abs rfl T.n_abs (by decide +kernel) (ja_cons (je_var (pv 3)) ja_nil))) (own := [("cell", 3)])))
    (jss_cons (js_set (i := 2) sc_l_own_bag.nd rfl (Or.inl rfl) (je_bin (jo_add mok0) je_int (je_callB jc_len rfl T.n_len (by decide +kernel) (ja_cons (je_var (pv 1)) ja_nil))))
    (jss_cons (js_for PassesOwn.never rfl (ji_of (je_var (pv 1))) (jg_name (i := 3) sc_l_own_bag.nd rfl (Or.inl rfl)) (jss_one (js_set (i := 2) sc_l_own_bag.nd rfl (Or.inl rfl) (je_bin jo_mod (je_bin (jo_add mok0) (je_bin (jo_add mok0) (je_bin jo_mulI (je_var (pv 2)) je_int) (je_bin jo_mod (je_callTy jc_int rfl T.n_int (by decide +kernel) (ja_cons (je_var (pv 3)) ja_nil)) je_int)) je_int) je_int))))
    (jss_one (js_ret (je_lst mok1 (ja_cons (je_listRev mok1 rfl rfl T.n_list rfl T.n_reversed (je_callTy (jc_listOf mok0) rfl T.n_list (by decide +kernel) (ja_cons (je_var (pv 1)) ja_nil))) (ja_cons je_int (ja_cons (je_var (pv 2)) ja_nil)))))))))
theorem ok_l_own_bag {P : Program} {w : World} {K : PySem.W.Frag} {mg : Str → Option Value} {base : Heap} (T : Top K mg) : FnG P w K mg base CX0 1 T.f_l_own_bag T.fd_l_own_bag ["script"] (spOf K c_l_own_bag) :=
  fn_ok0 (k := 0) T.F_l_own_bag sc_l_own_bag ari_l_own_bag (fun cdv A outer s H E G hgd hr => d_l_own_bag T hgd hr) w_l_own_bag
theorem d_l_draw {P : Program} {w : World} {K : PySem.W.Frag} {mg : Str → Option Value} {base : Heap} {f : Addr} {cdv : Value} {A : Around} {outer : List Env} {s : Shared} {H : Hp} {E : XK} {G : Gn} (T : Top K mg) (hgd : A.guards = some [])
    (hr : Room 0 (A.deeper (envOfC "_law_draw" (defScope s_l_draw) s.heap.objs.size f cdv))) :
    JSs (cxOf CX0 P w K mg base N_l_draw "_law_draw" (defScope s_l_draw) f cdv A outer s H E).nox G (defBody s_l_draw) (a_l_draw fun p => G.H0 p = none) :=
    (jss_cons (js_while PassesOwn.never (jw_pt (jw_and (jt_cmp (jo_eq hr.units) (je_ix jx_seq (je_var (pv 0)) je_int (fun _ _ => rfl)) je_int (nomark _)) (jw_and1 (jt_cmp (jo_ne hr.units) (je_ix jx_seq (je_var (pv 0)) je_int (fun _ _ => rfl)) (je_lst mok0 ja_nil) (nomark _))))) (jss_cons (js_set (i := 2) sc_l_draw.nd rfl (Or.inl rfl) (je_ml0 PySem.F.slot_list_pop PySem.F.type_list_pop jm_pop (je_ix jx_seq (je_var (pv 0)) je_int (fun _ _ => rfl))))
    (jss_one (js_setAt (by intro _ _ _ p q r; exact ps_asg p (pg_sub q r set_list)) (je_if (jt_cmp jo_gt (je_var (pv 2)) (je_bin jo_pow je_int je_int) (nomark _)) (je_var (pv 2)) je_int) (je_var (pv 0)) je_int))))
    (jss_cons (js_if (jt_cmp jo_gt (je_ix jx_seq (je_var (pv 0)) je_int (fun _ _ => rfl)) je_int (nomark _)) (jss_cons (js_set (i := 3) sc_l_draw.nd rfl (Or.inl rfl) (je_bin jo_mod (je_callTy jc_int rfl T.n_int (by decide +kernel) (ja_cons (je_ix jx_seq (je_var (pv 0)) je_int (fun _ _ => rfl)) ja_nil)) (je_var (pv 1))))
    (jss_cons (js_setAt (by intro _ _ _ p q r; exact ps_asg p (pg_sub q r set_list)) (je_bin jo_div (je_ix jx_seq (je_var (pv 0)) je_int (fun _ _ => rfl)) (je_var (pv 1))) (je_var (pv 0)) je_int)
    (jss_one (js_ret (je_var (pv 3)))))) jss_nil)
    (jss_cons (js_setAt (by intro _ _ _ p q r; exact ps_asg p (pg_sub q r set_list)) (je_bin jo_mod (je_bin (jo_add mok0) (je_bin jo_mulI (je_ix jx_seq (je_var (pv 0)) je_int (fun _ _ => rfl)) je_int) je_int) je_int) (je_var (pv 0)) je_int)
    (jss_one (js_ret (je_bin jo_mod (je_bin jo_div (je_bin jo_mod (je_callTy jc_int rfl T.n_int (by decide +kernel) (ja_cons (je_bin jo_mulI (je_ix jx_seq (je_var (pv 0)) je_int (fun _ _ => rfl)) (je_ix jx_seq (je_var (pv 0)) je_int (fun _ _ => rfl))) ja_nil)) je_int) je_int) (je_var (pv 1))))))))
theorem ok_l_draw {P : Program} {w : World} {K : PySem.W.Frag} {mg : Str → Option Value} {base : Heap} (T : Top K mg) : FnG P w K mg base CX0 1 T.f_l_draw T.fd_l_draw ["bag", "below"] (spOf K c_l_draw) :=
  fn_ok0 (k := 0) T.F_l_draw sc_l_draw ari_l_draw (fun cdv A outer s H E G hgd hr => d_l_draw T hgd hr) w_l_draw
theorem d_l_same {P : Program} {w : World} {K : PySem.W.Frag} {mg : Str → Option Value} {base : Heap} {f : Addr} {cdv : Value} {A : Around} {outer : List Env} {s : Shared} {H : Hp} {E : XK} {G : Gn} (T : Top K mg) (hgd : A.guards = some [])
    (hr : Room 0 (A.deeper (envOfC "_law_same" (defScope s_l_same) s.heap.objs.size f cdv))) :
    JSs (cxOf CX0 P w K mg base N_l_same "_law_same" (defScope s_l_same) f cdv A outer s H E).nox G (defBody s_l_same) (a_l_same fun p => G.H0 p = none) :=
    (jss_cons (js_if (jt_cmp jo_is (je_var (pv 1)) je_non (nomark _)) (jss_one (js_ret (je_cmp jo_is (je_var (pv 0)) je_non (nomark _)))) jss_nil)
    (jss_cons (js_if (jt_of (je_callB jc_isi rfl T.n_isinstance (by decide +kernel) (ja_cons (je_var (pv 1)) (ja_cons (je_raw (v := .ty "tuple") (pe_bltn rfl T.n_tuple (by decide +kernel) rfl)) ja_nil)))) (jss_one (js_ret (je_and (je_callB jc_isi rfl T.n_isinstance (by decide +kernel) (ja_cons (je_var (pv 0)) (ja_cons (je_raw (v := .ty "tuple") (pe_bltn rfl T.n_tuple (by decide +kernel) rfl)) ja_nil))) (je_and (je_cmp (jo_eq hr.units) (je_callB (jc_reprB hr.units hgd T.dg) rfl T.n_repr (by decide +kernel) (ja_cons (je_var (pv 0)) ja_nil)) (je_callB (jc_reprB hr.units hgd T.dg) rfl T.n_repr (by decide +kernel) (ja_cons (je_var (pv 1)) ja_nil)) (nomark _)) (je_one (je_cmp (jo_eq hr.units) (je_var (pv 0)) (je_var (pv 1)) (nomark _))))))) jss_nil)
    (jss_cons (js_if (jt_of (je_callB jc_isi rfl T.n_isinstance (by decide +kernel) (ja_cons (je_var (pv 1)) (ja_cons (je_raw (v := .ty "str") (pe_bltn rfl T.n_str (by decide +kernel) rfl)) ja_nil)))) (jss_one (js_ret (je_and (je_callB jc_isi rfl T.n_isinstance (by decide +kernel) (ja_cons (je_var (pv 0)) (ja_cons (je_raw (v := .ty "str") (pe_bltn rfl T.n_str (by decide +kernel) rfl)) ja_nil))) (je_one (je_cmp (jo_eq hr.units) (je_callB (jc_reprB hr.units hgd T.dg) rfl T.n_repr (by decide +kernel) (ja_cons (je_var (pv 0)) ja_nil)) (je_callB (jc_reprB hr.units hgd T.dg) rfl T.n_repr (by decide +kernel) (ja_cons (je_var (pv 1)) ja_nil)) (nomark _)))))) jss_nil)
    (jss_one (js_ret (je_and (je_callB jc_isi rfl T.n_isinstance (by decide +kernel) (ja_cons (je_var (pv 0)) (ja_cons (je_raw (v := .ty "int") (pe_bltn rfl T.n_int (by decide +kernel) rfl)) ja_nil))) (je_and (je_cmp (jo_eq hr.units) (je_callB (jc_reprB hr.units hgd T.dg) rfl T.n_repr (by decide +kernel) (ja_cons (je_var (pv 0)) ja_nil)) (je_callB (jc_reprB hr.units hgd T.dg) rfl T.n_repr (by decide +kernel) (ja_cons (je_var (pv 1)) ja_nil)) (nomark _)) (je_one (je_cmp (jo_eq hr.units) (je_var (pv 0)) (je_var (pv 1)) (nomark _))))))))))
theorem ok_l_same {P : Program} {w : World} {K : PySem.W.Frag} {mg : Str → Option Value} {base : Heap} (T : Top K mg) : FnG P w K mg base CX0 1 T.f_l_same T.fd_l_same ["found", "due"] (spOf K c_l_same) :=
  fn_ok0 (k := 0) T.F_l_same sc_l_same ari_l_same (fun cdv A outer s H E G hgd hr => d_l_same T hgd hr) w_l_same
theorem d_l_pairs {P : Program} {w : World} {K : PySem.W.Frag} {mg : Str → Option Value} {base : Heap} {f : Addr} {cdv : Value} {A : Around} {outer : List Env} {s : Shared} {H : Hp} {E : XK} {G : Gn} (T : Top K mg) (hgd : A.guards = some [])
    (hr : Room 0 (A.deeper (envOfC "_law_pairs" (defScope s_l_pairs) s.heap.objs.size f cdv))) :
    JSs (cxOf CX0 P w K mg base N_l_pairs "_law_pairs" (defScope s_l_pairs) f cdv A outer s H E).nox G (defBody s_l_pairs) (a_l_pairs fun p => G.H0 p = none) :=
    (jss_cons (js_set (i := 0) sc_l_pairs.nd rfl (Or.inl rfl) (je_lst mok1 ja_nil))
    (jss_cons (js_for PassesOwn.never rfl (ji_range2 rfl T.n_range (ja_cons je_int (ja_cons je_int ja_nil))) (jg_name (i := 1) sc_l_pairs.nd rfl (Or.inr rfl)) (jss_one (js_expr (je_ml PySem.F.slot_list_extend PySem.F.type_list_extend jm_extend (je_var (pv 0)) (ja_cons (lc2 (je_lc mok0 rfl sc_l_pairs.nd (ji_range2 rfl T.n_range (ja_cons je_int (ja_cons (je_var (pv 1)) ja_nil))) (blkOk_by (own := [("q", 2)]) (N := N_l_pairs) (sc := defScope s_l_pairs) (by decide +kernel)) (fun _ => (jgo_name (i := 2) (by first | decide | simp) sc_l_pairs.nd rfl (Or.inr rfl))) (fun _ => (jts_one (jt_of (je_callB (jc_all rfl) rfl T.n_all (by decide +kernel) (ja_cons (lc2 (je_lc mok0 rfl sc_l_pairs.nd (ji_of (je_tup (ja_cons je_int (ja_cons je_int (ja_cons je_int (ja_cons je_int ja_nil)))))) (blkOk_by (own := [("r", 3)]) (N := N_l_pairs) (by first | rfl | decide +kernel)) (fun _ => (jgo_name (i := 3) (by first | decide | simp) sc_l_pairs.nd rfl (Or.inl rfl))) (fun _ => jts_nil) (fun _ => (je_or (je_cmp jo_gt (je_bin jo_mod (je_callTy jc_int rfl T.n_int (by decide +kernel) (ja_cons (je_var (pv 1)) ja_nil)) (je_var (pv 3))) je_int (nomark _)) (je_one (je_cmp jo_gt (je_bin jo_mod (je_callTy jc_int rfl T.n_int (by decide +kernel) (ja_cons (je_var (pv 2)) ja_nil)) (je_var (pv 3))) je_int (nomark _))))) (own := [("r", 3)]))) ja_nil))))) (fun _ => (je_tup (ja_cons (je_var (pv 1)) (ja_cons (je_var (pv 2)) ja_nil)))) (own := [("q", 2)]))) ja_nil)))))
    (jss_one (js_retF (je_var (pv 0))))))
theorem ok_l_pairs {P : Program} {w : World} {K : PySem.W.Frag} {mg : Str → Option Value} {base : Heap} (T : Top K mg) : FnG P w K mg base CX0 1 T.f_l_pairs T.fd_l_pairs [] (spOf K c_l_pairs) :=
  fn_ok0 (k := 0) T.F_l_pairs sc_l_pairs ari_l_pairs (fun cdv A outer s H E G hgd hr => d_l_pairs T hgd hr) w_l_pairs
theorem d_l_figures {P : Program} {w : World} {K : PySem.W.Frag} {mg : Str → Option Value} {base : Heap} {f : Addr} {cdv : Value} {A : Around} {outer : List Env} {s : Shared} {H : Hp} {E : XK} {G : Gn} (T : Top K mg) (hgd : A.guards = some [])
    (hr : Room 0 (A.deeper (envOfC "_law_figures" (defScope s_l_figures) s.heap.objs.size f cdv))) :
    JSs (cxOf CX0 P w K mg base N_l_figures "_law_figures" (defScope s_l_figures) f cdv A outer s H E).nox G (defBody s_l_figures) (a_l_figures fun p => G.H0 p = none) :=
    (jss_cons (js_set (i := 3) sc_l_figures.nd rfl (Or.inl rfl) (je_lst mok1 ja_nil))
    (jss_cons (js_while PassesOwn.never (jt_cmp jo_gt (je_var (pv 0)) je_int (nomark _)) (jss_cons (js_expr (je_ml PySem.F.slot_list_append PySem.F.type_list_append jm_append (je_var (pv 3)) (ja_cons (je_bin jo_mod (je_callTy jc_int rfl T.n_int (by decide +kernel) (ja_cons (je_bin jo_mulI (je_var (pv 2)) (je_var (pv 0))) ja_nil)) (je_var (pv 1))) ja_nil)))
    (jss_one (js_set (i := 0) sc_l_figures.nd rfl (Or.inl rfl) (je_bin jo_div (je_bin jo_mulI (je_var (pv 2)) (je_var (pv 0))) (je_var (pv 1)))))))
    (jss_one (js_retD (je_callTy jc_tupleOf rfl T.n_tuple (by decide +kernel) (ja_cons (je_var (pv 3)) ja_nil))))))
theorem ok_l_figures {P : Program} {w : World} {K : PySem.W.Frag} {mg : Str → Option Value} {base : Heap} (T : Top K mg) : FnG P w K mg base CX0 1 T.f_l_figures T.fd_l_figures ["number", "p", "q"] (spOf K c_l_figures) :=
  fn_ok0 (k := 0) T.F_l_figures sc_l_figures ari_l_figures (fun cdv A outer s H E G hgd hr => d_l_figures T hgd hr) w_l_figures
theorem d_l_carried {P : Program} {w : World} {K : PySem.W.Frag} {mg : Str → Option Value} {base : Heap} {f : Addr} {cdv : Value} {A : Around} {outer : List Env} {s : Shared} {H : Hp} {E : XK} {G : Gn} (T : Top K mg) (hgd : A.guards = some [])
    (hr : Room 0 (A.deeper (envOfC "_law_carried" (defScope s_l_carried) s.heap.objs.size f cdv))) :
    JSs (cxOf CX0 P w K mg base N_l_carried "_law_carried" (defScope s_l_carried) f cdv A outer s H E).nox G (defBody s_l_carried) (a_l_carried fun p => G.H0 p = none) :=
    (jss_cons (js_par2 (i := 3) (j := 4) rfl sc_l_carried.nd rfl rfl (by decide) rfl rfl (ja_cons (je_lst mok1 ja_nil) (ja_cons je_int ja_nil)) rfl)
    (jss_cons (js_for PassesOwn.never rfl (ji_of (je_var (pv 0))) (jg_name (i := 5) sc_l_carried.nd rfl (Or.inl rfl)) (jss_cons (js_set (i := 4) sc_l_carried.nd rfl (Or.inl rfl) (je_bin (jo_add mok0) (je_var (pv 4)) (je_var (pv 5))))
    (jss_cons (js_expr (je_ml PySem.F.slot_list_append PySem.F.type_list_append jm_append (je_var (pv 3)) (ja_cons (je_bin jo_mod (je_callTy jc_int rfl T.n_int (by decide +kernel) (ja_cons (je_var (pv 4)) ja_nil)) (je_var (pv 1))) ja_nil)))
    (jss_one (js_set (i := 4) sc_l_carried.nd rfl (Or.inl rfl) (je_bin jo_mulI (je_bin jo_div (je_var (pv 4)) (je_var (pv 1))) (je_var (pv 2))))))))
    (jss_cons (js_while PassesOwn.never (jt_cmp jo_gt (je_var (pv 4)) je_int (nomark _)) (jss_cons (js_expr (je_ml PySem.F.slot_list_append PySem.F.type_list_append jm_append (je_var (pv 3)) (ja_cons (je_bin jo_mod (je_callTy jc_int rfl T.n_int (by decide +kernel) (ja_cons (je_var (pv 4)) ja_nil)) (je_var (pv 1))) ja_nil)))
    (jss_one (js_set (i := 4) sc_l_carried.nd rfl (Or.inl rfl) (je_bin jo_mulI (je_bin jo_div (je_var (pv 4)) (je_var (pv 1))) (je_var (pv 2)))))))
    (jss_cons (js_while PassesOwn.never (jw_pt (jw_and (jt_cmp (jo_ne hr.units) (je_var (pv 3)) (je_lst mok0 ja_nil) (nomark _)) (jw_and1 (jt_cmp (jo_eq hr.units) (je_ix jx_seq (je_var (pv 3)) (je_un ju_neg je_int) (fun _ _ => rfl)) je_int (nomark _))))) (jss_one (js_expr (je_ml0 PySem.F.slot_list_pop PySem.F.type_list_pop jm_pop (je_var (pv 3))))))
    (jss_one (js_retD (je_callTy jc_tupleOf rfl T.n_tuple (by decide +kernel) (ja_cons (je_var (pv 3)) ja_nil))))))))
theorem ok_l_carried {P : Program} {w : World} {K : PySem.W.Frag} {mg : Str → Option Value} {base : Heap} (T : Top K mg) : FnG P w K mg base CX0 1 T.f_l_carried T.fd_l_carried ["word", "p", "q"] (spOf K c_l_carried) :=
  fn_ok0 (k := 0) T.F_l_carried sc_l_carried ari_l_carried (fun cdv A outer s H E G hgd hr => d_l_carried T hgd hr) w_l_carried
theorem d_l_value {P : Program} {w : World} {K : PySem.W.Frag} {mg : Str → Option Value} {base : Heap} {f : Addr} {cdv : Value} {A : Around} {outer : List Env} {s : Shared} {H : Hp} {E : XK} {G : Gn} (T : Top K mg) (hgd : A.guards = some [])
    (hr : Room 0 (A.deeper (envOfC "_law_value" (defScope s_l_value) s.heap.objs.size f cdv))) :
    JSs (cxOf CX0 P w K mg base N_l_value "_law_value" (defScope s_l_value) f cdv A outer s H E).nox G (defBody s_l_value) (a_l_value fun p => G.H0 p = none) :=
    (jss_cons (js_asg (je_tup (ja_cons je_int (ja_cons je_int ja_nil))) (jg_tup rfl (jgs1 (jg_name (i := 3) sc_l_value.nd rfl (Or.inl rfl)) (jgs1 (jg_name (i := 4) sc_l_value.nd rfl (Or.inl rfl)) jgs0))))
    (jss_cons (js_for PassesOwn.never rfl (ji_reversed rfl T.n_reversed (je_callTy (jc_listOf mok0) rfl T.n_list (by decide +kernel) (ja_cons (je_var (pv 0)) ja_nil))) (jg_name (i := 5) sc_l_value.nd rfl (Or.inl rfl)) (jss_one (js_par2 (i := 3) (j := 4) rfl sc_l_value.nd rfl rfl (by decide) rfl rfl (ja_cons (je_bin (jo_add mok0) (je_bin jo_mulI (je_var (pv 3)) (je_var (pv 1))) (je_bin jo_mulI (je_var (pv 5)) (je_var (pv 4)))) (ja_cons (je_bin jo_mulI (je_var (pv 4)) (je_var (pv 2))) ja_nil)) rfl)))
    (jss_cons (js_if (jt_cmp (jo_eq hr.units) (je_var (pv 3)) je_int (nomark _)) (jss_one (js_ret (je_tup (ja_cons je_int (ja_cons je_int ja_nil))))) jss_nil)
    (jss_cons (js_while PassesOwn.never (jw_pt (jw_and (jt_cmp jo_gt (je_var (pv 4)) je_int (nomark _)) (jw_and1 (jt_cmp (jo_eq hr.units) (je_bin jo_mod (je_callTy jc_int rfl T.n_int (by decide +kernel) (ja_cons (je_var (pv 3)) ja_nil)) (je_var (pv 2))) je_int (nomark _))))) (jss_one (js_par2 (i := 3) (j := 4) rfl sc_l_value.nd rfl rfl (by decide) rfl rfl (ja_cons (je_bin jo_div (je_var (pv 3)) (je_var (pv 2))) (ja_cons (je_bin jo_div (je_var (pv 4)) (je_var (pv 2))) ja_nil)) rfl)))
    (jss_cons (js_for PassesOwn.never rfl (ji_of (je_tup (ja_cons je_int (ja_cons je_int (ja_cons je_int (ja_cons je_int ja_nil)))))) (jg_name (i := 6) sc_l_value.nd rfl (Or.inl rfl)) (jss_one (js_while PassesOwn.never (jw_pt (jw_and (jt_cmp (jo_eq hr.units) (je_bin jo_mod (je_callTy jc_int rfl T.n_int (by decide +kernel) (ja_cons (je_var (pv 3)) ja_nil)) (je_var (pv 6))) je_int (nomark _)) (jw_and1 (jt_cmp (jo_eq hr.units) (je_bin jo_mod (je_callTy jc_int rfl T.n_int (by decide +kernel) (ja_cons (je_var (pv 4)) ja_nil)) (je_var (pv 6))) je_int (nomark _))))) (jss_one (js_par2 (i := 3) (j := 4) rfl sc_l_value.nd rfl rfl (by decide) rfl rfl (ja_cons (je_bin jo_div (je_var (pv 3)) (je_var (pv 6))) (ja_cons (je_bin jo_div (je_var (pv 4)) (je_var (pv 6))) ja_nil)) rfl)))))
    (jss_one (js_ret (je_tup (ja_cons (je_var (pv 3)) (ja_cons (je_var (pv 4)) ja_nil))))))))))
theorem ok_l_value {P : Program} {w : World} {K : PySem.W.Frag} {mg : Str → Option Value} {base : Heap} (T : Top K mg) : FnG P w K mg base CX0 1 T.f_l_value T.fd_l_value ["word", "p", "q"] (spOf K c_l_value) :=
  fn_ok0 (k := 0) T.F_l_value sc_l_value ari_l_value (fun cdv A outer s H E G hgd hr => d_l_value T hgd hr) w_l_value
theorem d_l_judged {P : Program} {w : World} {K : PySem.W.Frag} {mg : Str → Option Value} {base : Heap} {f : Addr} {cdv : Value} {A : Around} {outer : List Env} {s : Shared} {H : Hp} {E : XK} {G : Gn} (T : Top K mg) (hgd : A.guards = some [])
    (hr : Room 0 (A.deeper (envOfC "_law_judged" (defScope s_l_judged) s.heap.objs.size f cdv))) :
    JSs (cxOf CX0 P w K mg base N_l_judged "_law_judged" (defScope s_l_judged) f cdv A outer s H E).nox G (defBody s_l_judged) (a_l_judged fun p => G.H0 p = none) :=
    (jss_cons (js_if (jw_pt (jw_or (jt_not (jt_of (je_callB jc_isi rfl T.n_isinstance (by decide +kernel) (ja_cons (je_var (pv 0)) (ja_cons (je_raw (v := .ty "tuple") (pe_bltn rfl T.n_tuple (by decide +kernel) rfl)) ja_nil))))) (jw_or1 (jt_cmp jo_gt (je_callB jc_len rfl T.n_len (by decide +kernel) (ja_cons (je_var (pv 0)) ja_nil)) je_int (nomark _))))) (jss_one (js_ret je_str)) jss_nil)
    (jss_cons (js_if (jt_of (je_callB (jc_any rfl) rfl T.n_any (by decide +kernel) (ja_cons (lc2 (je_lc mok0 rfl sc_l_judged.nd (ji_of (je_var (pv 0))) (blkOk_by (own := [("item", 4)]) (N := N_l_judged) (sc := defScope s_l_judged) (by decide +kernel)) (fun _ => (jgo_name (i := 4) (by first | decide | simp) sc_l_judged.nd rfl (Or.inl rfl))) (fun _ => jts_nil) (fun _ => (je_or (je_not (je_callB jc_isi rfl T.n_isinstance (by decide +kernel) (ja_cons (je_var (pv 4)) (ja_cons (je_raw (v := .ty "int") (pe_bltn rfl T.n_int (by decide +kernel) rfl)) ja_nil)))) (je_one (je_callB jc_isi rfl T.n_isinstance (by decide +kernel) (ja_cons (je_var (pv 4)) (ja_cons (je_raw (v := .ty "bool") (pe_bltn rfl T.n_bool (by decide +kernel) rfl)) ja_nil)))))) (own := [("item", 4)]))) ja_nil))) (jss_one (js_ret je_str)) jss_nil)
    (jss_cons (js_for PassesOwn.never rfl (ji_enum2 rfl T.n_enumerate (ja_cons (je_var (pv 0)) ja_nil)) (jg_tup rfl (jgs1 (jg_name (i := 3) sc_l_judged.nd rfl (Or.inl rfl)) (jgs1 (jg_name (i := 4) sc_l_judged.nd rfl (Or.inl rfl)) jgs0))) (jss_one (js_if (jw_pt (jw_or (jt_cmp jo_lt (je_var (pv 4)) je_int (nomark _)) (jw_or1 (jt_cmp jo_ge (je_var (pv 4)) (je_var (pv 1)) (nomark _))))) (jss_one (js_ret (je_tup (ja_cons je_str (ja_cons (je_var (pv 3)) ja_nil))))) jss_nil)))
    (jss_cons (js_if (jw_pt (jw_and (jt_cmp (jo_neN hr.units) (je_var (pv 0)) (je_tup ja_nil) (nomark _)) (jw_and1 (jt_cmp (jo_eq hr.units) (je_ix jx_seq (je_var (pv 0)) (je_un ju_neg je_int) (fun _ _ => rfl)) je_int (nomark _))))) (jss_one (js_ret je_str)) jss_nil)
    (jss_cons (js_set (i := 5) sc_l_judged.nd rfl (Or.inl rfl) je_int)
    (jss_cons (js_for PassesOwn.never rfl (ji_reversed rfl T.n_reversed (je_callTy (jc_listOf mok0) rfl T.n_list (by decide +kernel) (ja_cons (je_var (pv 0)) ja_nil))) (jg_name (i := 6) sc_l_judged.nd rfl (Or.inl rfl)) (jss_cons (js_if (jt_cmp jo_gt (je_bin jo_mod (je_callTy jc_int rfl T.n_int (by decide +kernel) (ja_cons (je_bin (jo_add mok0) (je_bin jo_mulI (je_var (pv 1)) (je_var (pv 5))) (je_var (pv 6))) ja_nil)) (je_var (pv 2))) je_int (nomark _)) (jss_one (js_ret je_str)) jss_nil)
    (jss_one (js_set (i := 5) sc_l_judged.nd rfl (Or.inl rfl) (je_bin jo_div (je_bin (jo_add mok0) (je_bin jo_mulI (je_var (pv 1)) (je_var (pv 5))) (je_var (pv 6))) (je_var (pv 2)))))))
    (jss_one (js_ret je_non))))))))
theorem ok_l_judged {P : Program} {w : World} {K : PySem.W.Frag} {mg : Str → Option Value} {base : Heap} (T : Top K mg) : FnG P w K mg base CX0 1 T.f_l_judged T.fd_l_judged ["value", "p", "q"] (spOf K c_l_judged) :=
  fn_ok0 (k := 0) T.F_l_judged sc_l_judged ari_l_judged (fun cdv A outer s H E G hgd hr => d_l_judged T hgd hr) w_l_judged
theorem d_word_sum {P : Program} {w : World} {K : PySem.W.Frag} {mg : Str → Option Value} {base : Heap} {f : Addr} {cdv : Value} {A : Around} {outer : List Env} {s : Shared} {H : Hp} {E : XK} {G : Gn} (T : Top K mg) (hgd : A.guards = some [])
    (hr : Room 1 (A.deeper (envOfC "word_sum" (defScope s_word_sum) s.heap.objs.size f cdv))) :
    JSs (cxOf CX0 P w K mg base N_word_sum "word_sum" (defScope s_word_sum) f cdv A outer s H E).nox G (defBody s_word_sum) (a_word_sum fun p => G.H0 p = none) :=
    (jss_cons (js_set (i := 2) sc_word_sum.nd rfl (Or.inl rfl) (je_callB (jc_max2 rfl) rfl T.n_max (by decide +kernel) (ja_cons (je_callB jc_len rfl T.n_len (by decide +kernel) (ja_cons (je_var (pv 0)) ja_nil)) (ja_cons (je_callB jc_len rfl T.n_len (by decide +kernel) (ja_cons (je_var (pv 1)) ja_nil)) ja_nil))))
    (jss_cons (js_par2 (i := 3) (j := 4) rfl sc_word_sum.nd rfl rfl (by decide) rfl rfl (ja_cons (je_bin (jo_add mok0) (je_var (pv 0)) (je_bin (jo_mulB mok0) (je_tup (ja_cons je_int ja_nil)) (je_bin jo_sub (je_var (pv 2)) (je_callB jc_len rfl T.n_len (by decide +kernel) (ja_cons (je_var (pv 0)) ja_nil))))) (ja_cons (je_bin (jo_add mok0) (je_var (pv 1)) (je_bin (jo_mulB mok0) (je_tup (ja_cons je_int ja_nil)) (je_bin jo_sub (je_var (pv 2)) (je_callB jc_len rfl T.n_len (by decide +kernel) (ja_cons (je_var (pv 1)) ja_nil))))) ja_nil)) rfl)
    (jss_one (js_ret (je_call (ok_trimmed T) (hr.mono (by decide)) hgd rfl T.m_trimmed T.F_trimmed.kp (b_trimmed T) (fun _ => passAt0) (@xok0 _ _ _) (ja_cons (lc2 (je_lc mok0 rfl sc_word_sum.nd (ji_zip rfl T.n_zip (ja_cons (je_var (pv 3)) (ja_cons (je_var (pv 4)) ja_nil))) (blkOk_by (own := [("here", 5), ("there", 6)]) (N := N_word_sum) (sc := defScope s_word_sum) (by decide +kernel)) (fun _ => (jgo_tup rfl (jgso1 (jgo_name (i := 5) (by first | decide | simp) sc_word_sum.nd rfl (Or.inl rfl)) (jgso1 (jgo_name (i := 6) (by first | decide | simp) sc_word_sum.nd rfl (Or.inl rfl)) jgso0)))) (fun _ => jts_nil) (fun _ => (je_bin (jo_add mok0) (je_var (pv 5)) (je_var (pv 6)))) (own := [("here", 5), ("there", 6)]))) ja_nil))))))
theorem ok_word_sum {P : Program} {w : World} {K : PySem.W.Frag} {mg : Str → Option Value} {base : Heap} (T : Top K mg) : FnG P w K mg base CX0 2 T.f_word_sum T.fd_word_sum ["one", "other"] (spOf K c_word_sum) :=
  fn_ok0 (k := 1) T.F_word_sum sc_word_sum ari_word_sum (fun cdv A outer s H E G hgd hr => d_word_sum T hgd hr) w_word_sum
theorem d_times_word {P : Program} {w : World} {K : PySem.W.Frag} {mg : Str → Option Value} {base : Heap} {f : Addr} {cdv : Value} {A : Around} {outer : List Env} {s : Shared} {H : Hp} {E : XK} {G : Gn} (T : Top K mg) (hgd : A.guards = some [])
    (hr : Room 1 (A.deeper (envOfC "times_word" (defScope s_times_word) s.heap.objs.size f cdv))) :
    JSs (cxOf CX0 P w K mg base N_times_word "times_word" (defScope s_times_word) f cdv A outer s H E).nox G (defBody s_times_word) (a_times_word fun p => G.H0 p = none) :=
    (jss_one (js_ret (je_call (ok_trimmed T) (hr.mono (by decide)) hgd rfl T.m_trimmed T.F_trimmed.kp (b_trimmed T) (fun _ => passAt0) (@xok0 _ _ _) (ja_cons (lc2 (je_lc mok0 rfl sc_times_word.nd (ji_of (je_var (pv 0))) (blkOk_by (own := [("figure", 2)]) (N := N_times_word) (sc := defScope s_times_word) (by decide +kernel)) (fun _ => (jgo_name (i := 2) (by first | decide | simp) sc_times_word.nd rfl (Or.inl rfl))) (fun _ => jts_nil) (fun _ => (je_bin jo_mulI (je_var (pv 2)) (je_var (pv 1)))) (own := [("figure", 2)]))) ja_nil))))
theorem ok_times_word {P : Program} {w : World} {K : PySem.W.Frag} {mg : Str → Option Value} {base : Heap} (T : Top K mg) : FnG P w K mg base CX0 2 T.f_times_word T.fd_times_word ["word", "number"] (spOf K c_times_word) :=
  fn_ok0 (k := 1) T.F_times_word sc_times_word ari_times_word (fun cdv A outer s H E G hgd hr => d_times_word T hgd hr) w_times_word
theorem d_broken_carried {P : Program} {w : World} {K : PySem.W.Frag} {mg : Str → Option Value} {base : Heap} {f : Addr} {cdv : Value} {A : Around} {outer : List Env} {s : Shared} {H : Hp} {E : XK} {G : Gn} (T : Top K mg) (hgd : A.guards = some [])
    (hr : Room 1 (A.deeper (envOfC "broken_carried" (defScope s_broken_carried) s.heap.objs.size f cdv))) :
    JSs (cxOf CX0 P w K mg base N_broken_carried "broken_carried" (defScope s_broken_carried) f cdv A outer s H E).nox G (defBody s_broken_carried) (a_broken_carried fun p => G.H0 p = none) :=
    (jss_cons (js_par3 (i := 3) (j := 4) (l := 5) rfl sc_broken_carried.nd rfl rfl rfl (by decide) (by decide) (by decide) rfl rfl rfl (ja_cons (je_lst mok1 ja_nil) (ja_cons je_int (ja_cons je_int ja_nil))) rfl)
    (jss_cons (js_while PassesOwn.never (jw_pt (jw_or (jt_cmp jo_lt (je_var (pv 5)) (je_callB jc_len rfl T.n_len (by decide +kernel) (ja_cons (je_var (pv 0)) ja_nil)) (nomark _)) (jw_or1 (jt_cmp jo_gt (je_var (pv 4)) je_int (nomark _))))) (jss_cons (js_set (i := 6) sc_broken_carried.nd rfl (Or.inl rfl) (je_bin (jo_add mok0) (je_var (pv 4)) (je_if (jt_cmp jo_lt (je_var (pv 5)) (je_callB jc_len rfl T.n_len (by decide +kernel) (ja_cons (je_var (pv 0)) ja_nil)) (nomark _)) (je_ix jx_seq (je_var (pv 0)) (je_var (pv 5)) (fun _ _ => rfl)) je_int)))
    (jss_cons (js_expr (je_ml PySem.F.slot_list_append PySem.F.type_list_append jm_append (je_var (pv 3)) (ja_cons (je_bin jo_mod (je_var (pv 6)) (je_var (pv 1))) ja_nil)))
    (jss_one (js_par2 (i := 4) (j := 5) rfl sc_broken_carried.nd rfl rfl (by decide) rfl rfl (ja_cons (je_bin jo_mulI (je_var (pv 2)) (je_bin jo_div (je_var (pv 6)) (je_var (pv 1)))) (ja_cons (je_bin (jo_add mok0) (je_var (pv 5)) je_int) ja_nil)) rfl)))))
    (jss_one (js_fz (i := 3) (js_retD (je_call (ok_trimmed T) (hr.mono (by decide)) hgd rfl T.m_trimmed T.F_trimmed.kp (b_trimmed T) (fun _ => passAt0) (@xok0 _ _ _) (ja_cons (je_var (pv 3)) ja_nil)))))))
theorem ok_broken_carried {P : Program} {w : World} {K : PySem.W.Frag} {mg : Str → Option Value} {base : Heap} (T : Top K mg) : FnG P w K mg base CX0 2 T.f_broken_carried T.fd_broken_carried ["word", "p", "q"] (spOf K c_broken_carried) :=
  fn_ok0 (k := 1) T.F_broken_carried sc_broken_carried ari_broken_carried (fun cdv A outer s H E G hgd hr => d_broken_carried T hgd hr) w_broken_carried
theorem d_broken_error {P : Program} {w : World} {K : PySem.W.Frag} {mg : Str → Option Value} {base : Heap} {f : Addr} {cdv : Value} {A : Around} {outer : List Env} {s : Shared} {H : Hp} {E : XK} {G : Gn} (T : Top K mg) (hgd : A.guards = some [])
    (hr : Room 1 (A.deeper (envOfC "broken_error" (defScope s_broken_error) s.heap.objs.size f cdv))) :
    JSs (cxOf CX0 P w K mg base N_broken_error "broken_error" (defScope s_broken_error) f cdv A outer s H E).nox G (defBody s_broken_error) (a_broken_error fun p => G.H0 p = none) :=
    (jss_cons (js_if (jw_pt (jw_or (jt_not (jt_of (je_callB jc_isi rfl T.n_isinstance (by decide +kernel) (ja_cons (je_var (pv 0)) (ja_cons (je_raw (v := .ty "tuple") (pe_bltn rfl T.n_tuple (by decide +kernel) rfl)) ja_nil))))) (jw_or (jt_cmp jo_gt (je_callB jc_len rfl T.n_len (by decide +kernel) (ja_cons (je_var (pv 0)) ja_nil)) (je_c (v := .int 1000) (pe_glob rfl T.m_MAX_STRETCH ⟨_, rfl⟩) (fun _ => .int _)) (nomark _)) (jw_or1 (jt_not (jt_of (je_callB (jc_all rfl) rfl T.n_all (by decide +kernel) (ja_cons (lc2 (je_lc mok0 rfl sc_broken_error.nd (ji_of (je_var (pv 0))) (blkOk_by (own := [("item", 5)]) (N := N_broken_error) (sc := defScope s_broken_error) (by decide +kernel)) (fun _ => (jgo_name (i := 5) (by first | decide | simp) sc_broken_error.nd rfl (Or.inl rfl))) (fun _ => jts_nil) (fun _ => (je_call (ok_is_number T) (hr.mono (by decide)) hgd rfl T.m_is_number T.F_is_number.kp (b_is_number T) (fun _ => passAt0) (@xok0 _ _ _) (ja_cons (je_var (pv 5)) ja_nil))) (own := [("item", 5)]))) ja_nil)))))))) (jss_one (js_ret je_str)) jss_nil)
    (jss_cons (js_for PassesOwn.never rfl (ji_enum2 rfl T.n_enumerate (ja_cons (je_var (pv 0)) ja_nil)) (jg_tup rfl (jgs1 (jg_name (i := 3) sc_broken_error.nd rfl (Or.inl rfl)) (jgs1 (jg_name (i := 4) sc_broken_error.nd rfl (Or.inl rfl)) jgs0))) (jss_one (js_if (jt_not (jt_chain jo_le jo_lt je_int (je_var (pv 4)) (je_var (pv 1)))) (jss_one (js_ret (je_tup (ja_cons je_str (ja_cons (je_var (pv 3)) ja_nil))))) jss_nil)))
    (jss_cons (js_if (jw_pt (jw_and (jt_cmp (jo_neN hr.units) (je_var (pv 0)) (je_tup ja_nil) (nomark _)) (jw_and1 (jt_cmp (jo_eq hr.units) (je_ix jx_seq (je_var (pv 0)) (je_un ju_neg je_int) (fun _ _ => rfl)) je_int (nomark _))))) (jss_one (js_ret je_str)) jss_nil)
    (jss_one (js_ret (je_if (jt_cmp (jo_ne hr.units) (je_ix jx_seq (je_call (ok_broken_value T) (hr.mono (by decide)) hgd rfl T.m_broken_value T.F_broken_value.kp (b_broken_value T) (fun _ => passAt0) (@xok0 _ _ _) (ja_cons (je_var (pv 0)) (ja_cons (je_var (pv 1)) (ja_cons (je_var (pv 2)) ja_nil)))) je_int (fun _ _ => rfl)) je_int (nomark _)) je_str je_non))))))
theorem ok_broken_error {P : Program} {w : World} {K : PySem.W.Frag} {mg : Str → Option Value} {base : Heap} (T : Top K mg) : FnG P w K mg base CX0 2 T.f_broken_error T.fd_broken_error ["value", "p", "q"] (spOf K c_broken_error) :=
  fn_ok0 (k := 1) T.F_broken_error sc_broken_error ari_broken_error (fun cdv A outer s H E G hgd hr => d_broken_error T hgd hr) w_broken_error
theorem d_l_pick {P : Program} {w : World} {K : PySem.W.Frag} {mg : Str → Option Value} {base : Heap} {f : Addr} {cdv : Value} {A : Around} {outer : List Env} {s : Shared} {H : Hp} {E : XK} {G : Gn} (T : Top K mg) (hgd : A.guards = some [])
    (hr : Room 1 (A.deeper (envOfC "_law_pick" (defScope s_l_pick) s.heap.objs.size f cdv))) :
    JSs (cxOf CX0 P w K mg base N_l_pick "_law_pick" (defScope s_l_pick) f cdv A outer s H E).nox G (defBody s_l_pick) (a_l_pick fun p => G.H0 p = none) :=
    (jss_one (js_ret (je_ix jx_seq (je_var (pv 1)) (je_call (ok_l_draw T) (hr.mono (by decide)) hgd rfl T.m_l_draw T.F_l_draw.kp (b_l_draw T) (fun _ => passAt0) (@xok0 _ _ _) (ja_cons (je_var (pv 0)) (ja_cons (je_callB jc_len rfl T.n_len (by decide +kernel) (ja_cons (je_var (pv 1)) ja_nil)) ja_nil))) (fun _ _ => rfl))))
theorem ok_l_pick {P : Program} {w : World} {K : PySem.W.Frag} {mg : Str → Option Value} {base : Heap} (T : Top K mg) : FnG P w K mg base CX0 2 T.f_l_pick T.fd_l_pick ["bag", "some"] (spOf K c_l_pick) :=
  fn_ok0 (k := 1) T.F_l_pick sc_l_pick ari_l_pick (fun cdv A outer s H E G hgd hr => d_l_pick T hgd hr) w_l_pick
theorem d_l_great {P : Program} {w : World} {K : PySem.W.Frag} {mg : Str → Option Value} {base : Heap} {f : Addr} {cdv : Value} {A : Around} {outer : List Env} {s : Shared} {H : Hp} {E : XK} {G : Gn} (T : Top K mg) (hgd : A.guards = some [])
    (hr : Room 1 (A.deeper (envOfC "_law_great" (defScope s_l_great) s.heap.objs.size f cdv))) :
    JSs (cxOf CX0 P w K mg base N_l_great "_law_great" (defScope s_l_great) f cdv A outer s H E).nox G (defBody s_l_great) (a_l_great fun p => G.H0 p = none) :=
    (jss_cons (js_asg (je_tup (ja_cons je_int (ja_cons je_int ja_nil))) (jg_tup rfl (jgs1 (jg_name (i := 2) sc_l_great.nd rfl (Or.inl rfl)) (jgs1 (jg_name (i := 3) sc_l_great.nd rfl (Or.inl rfl)) jgs0))))
    (jss_cons (js_while PassesOwn.never (jt_cmp jo_lt (je_var (pv 3)) (je_bin jo_mulI (je_var (pv 1)) je_int) (nomark _)) (jss_one (js_par2 (i := 2) (j := 3) rfl sc_l_great.nd rfl rfl (by decide) rfl rfl (ja_cons (je_bin (jo_add mok0) (je_bin jo_mulI (je_var (pv 2)) je_int) (je_call (ok_l_draw T) (hr.mono (by decide)) hgd rfl T.m_l_draw T.F_l_draw.kp (b_l_draw T) (fun _ => passAt0) (@xok0 _ _ _) (ja_cons (je_var (pv 0)) (ja_cons je_int ja_nil)))) (ja_cons (je_bin jo_mulI (je_var (pv 3)) je_int) ja_nil)) rfl)))
    (jss_one (js_ret (je_bin jo_mod (je_callTy jc_int rfl T.n_int (by decide +kernel) (ja_cons (je_var (pv 2)) ja_nil)) (je_var (pv 1)))))))
theorem ok_l_great {P : Program} {w : World} {K : PySem.W.Frag} {mg : Str → Option Value} {base : Heap} (T : Top K mg) : FnG P w K mg base CX0 2 T.f_l_great T.fd_l_great ["bag", "below"] (spOf K c_l_great) :=
  fn_ok0 (k := 1) T.F_l_great sc_l_great ari_l_great (fun cdv A outer s H E G hgd hr => d_l_great T hgd hr) w_l_great
theorem d_l_grown {P : Program} {w : World} {K : PySem.W.Frag} {mg : Str → Option Value} {base : Heap} {f : Addr} {cdv : Value} {A : Around} {outer : List Env} {s : Shared} {H : Hp} {E : XK} {G : Gn} (T : Top K mg) (hgd : A.guards = some [])
    (hr : Room 1 (A.deeper (envOfC "_law_grown" (defScope s_l_grown) s.heap.objs.size f cdv))) :
    JSs (cxOf CX0 P w K mg base N_l_grown "_law_grown" (defScope s_l_grown) f cdv A outer s H E).nox G (defBody s_l_grown) (a_l_grown fun p => G.H0 p = none) :=
    (jss_cons (js_par3 (i := 4) (j := 5) (l := 6) rfl sc_l_grown.nd rfl rfl rfl (by decide) (by decide) (by decide) rfl rfl rfl (ja_cons (lc2 (je_lc mok0 rfl sc_l_grown.nd (ji_range1 rfl T.n_range (ja_cons je_int ja_nil)) (blkOk_by (own := [("turn", 9)]) (N := N_l_grown) (sc := defScope s_l_grown) (by decide +kernel)) (fun _ => (jgo_name (i := 9) (by first | decide | simp) sc_l_grown.nd rfl (Or.inl rfl))) (fun _ => jts_nil) (fun _ => (je_call (ok_l_draw T) (hr.mono (by decide)) hgd rfl T.m_l_draw T.F_l_draw.kp (b_l_draw T) (fun _ => passAt0) (@xok0 _ _ _) (ja_cons (je_var (pv 0)) (ja_cons je_int ja_nil)))) (own := [("turn", 9)]))) (ja_cons (je_lst mok1 ja_nil) (ja_cons je_int ja_nil))) rfl)
    (jss_cons (js_for PassesOwn.never rfl (ji_range1 rfl T.n_range (ja_cons (je_var (pv 3)) ja_nil)) (jg_name (i := 7) sc_l_grown.nd rfl (Or.inl rfl)) (jss_cons (js_set (i := 8) sc_l_grown.nd rfl (Or.inl rfl) (je_bin jo_mod (je_callTy jc_int rfl T.n_int (by decide +kernel) (ja_cons (je_bin jo_sub je_int (je_bin jo_mulI (je_var (pv 1)) (je_var (pv 6)))) ja_nil)) (je_var (pv 2))))
    (jss_cut (js_if (jt_cmp (jo_eq hr.units) (je_var (pv 7)) je_int (nomark _)) (jss_one (js_set (i := 8) sc_l_grown.nd rfl (Or.inl rfl) (je_var (pv 2)))) jss_nil)
    (jss_cons (js_expr (je_ml PySem.F.slot_list_append PySem.F.type_list_append jm_append (je_var (pv 5)) (ja_cons (je_bin (jo_add mok0) (je_var (pv 8)) (je_bin jo_mulI (je_var (pv 2)) (je_bin jo_mod (je_ix jx_seq (je_var (pv 4)) (je_bin jo_mod (je_var (pv 7)) je_int) (fun _ _ => rfl)) (je_bin (jo_add mok0) (je_bin jo_div (je_bin jo_sub (je_bin jo_sub (je_var (pv 1)) je_int) (je_var (pv 8))) (je_var (pv 2))) je_int)))) ja_nil)))
    (jss_one (js_set (i := 6) sc_l_grown.nd rfl (Or.inl rfl) (je_bin jo_div (je_bin (jo_add mok0) (je_bin jo_mulI (je_var (pv 1)) (je_var (pv 6))) (je_ix jx_seq (je_var (pv 5)) (je_un ju_neg je_int) (fun _ _ => rfl))) (je_var (pv 2)))))))))
    (jss_one (js_retD (je_callTy jc_tupleOf rfl T.n_tuple (by decide +kernel) (ja_cons (je_listRev mok0 rfl rfl T.n_list rfl T.n_reversed (je_callTy (jc_listOf mok0) rfl T.n_list (by decide +kernel) (ja_cons (je_var (pv 5)) ja_nil))) ja_nil))))))
theorem ok_l_grown {P : Program} {w : World} {K : PySem.W.Frag} {mg : Str → Option Value} {base : Heap} (T : Top K mg) : FnG P w K mg base CX0 2 T.f_l_grown T.fd_l_grown ["bag", "p", "q", "many"] (spOf K c_l_grown) :=
  fn_ok0 (k := 1) T.F_l_grown sc_l_grown ari_l_grown (fun cdv A outer s H E G hgd hr => d_l_grown T hgd hr) w_l_grown
theorem d_l_number {P : Program} {w : World} {K : PySem.W.Frag} {mg : Str → Option Value} {base : Heap} {f : Addr} {cdv : Value} {A : Around} {outer : List Env} {s : Shared} {H : Hp} {E : XK} {G : Gn} (T : Top K mg) (hgd : A.guards = some [])
    (hr : Room 2 (A.deeper (envOfC "_law_number" (defScope s_l_number) s.heap.objs.size f cdv))) :
    JSs (cxOf CX0 P w K mg base N_l_number "_law_number" (defScope s_l_number) f cdv A outer s H E).nox G (defBody s_l_number) (a_l_number fun p => G.H0 p = none) :=
    (jss_cons (js_par2 (i := 1) (j := 2) rfl sc_l_number.nd rfl rfl (by decide) rfl rfl (ja_cons (je_call (ok_l_draw T) (hr.mono (by decide)) hgd rfl T.m_l_draw T.F_l_draw.kp (b_l_draw T) (fun _ => passAt0) (@xok0 _ _ _) (ja_cons (je_var (pv 0)) (ja_cons je_int ja_nil))) (ja_cons je_int ja_nil)) rfl)
    (jss_cons (js_if (jt_cmp (jo_eq hr.units) (je_var (pv 1)) je_int (nomark _)) (jss_one (js_ret (je_call (ok_l_draw T) (hr.mono (by decide)) hgd rfl T.m_l_draw T.F_l_draw.kp (b_l_draw T) (fun _ => passAt0) (@xok0 _ _ _) (ja_cons (je_var (pv 0)) (ja_cons je_int ja_nil))))) jss_nil)
    (jss_cons (js_if (jt_cmp (jo_eq hr.units) (je_var (pv 1)) je_int (nomark _)) (jss_one (js_ret (je_bin jo_sub (je_bin jo_pow je_int je_int) (je_call (ok_l_draw T) (hr.mono (by decide)) hgd rfl T.m_l_draw T.F_l_draw.kp (b_l_draw T) (fun _ => passAt0) (@xok0 _ _ _) (ja_cons (je_var (pv 0)) (ja_cons je_int ja_nil)))))) jss_nil)
    (jss_cons (js_for PassesOwn.never rfl (ji_range1 rfl T.n_range (ja_cons (je_bin (jo_add mok0) je_int (je_call (ok_l_draw T) (hr.mono (by decide)) hgd rfl T.m_l_draw T.F_l_draw.kp (b_l_draw T) (fun _ => passAt0) (@xok0 _ _ _) (ja_cons (je_var (pv 0)) (ja_cons je_int ja_nil)))) ja_nil)) (jg_name (i := 3) sc_l_number.nd rfl (Or.inl rfl)) (jss_one (js_set (i := 2) sc_l_number.nd rfl (Or.inl rfl) (je_bin jo_mulI (je_var (pv 2)) je_int))))
    (jss_one (js_ret (je_bin (jo_add mok0) (je_call (ok_l_great T) (hr.mono (by decide)) hgd rfl T.m_l_great T.F_l_great.kp (b_l_great T) (fun _ => passAt0) (@xok0 _ _ _) (ja_cons (je_var (pv 0)) (ja_cons (je_var (pv 2)) ja_nil))) (je_bin jo_div (je_var (pv 1)) je_int))))))))
theorem ok_l_number {P : Program} {w : World} {K : PySem.W.Frag} {mg : Str → Option Value} {base : Heap} (T : Top K mg) : FnG P w K mg base CX0 3 T.f_l_number T.fd_l_number ["bag"] (spOf K c_l_number) :=
  fn_ok0 (k := 2) T.F_l_number sc_l_number ari_l_number (fun cdv A outer s H E G hgd hr => d_l_number T hgd hr) w_l_number
theorem d_l_are_products_right {P : Program} {w : World} {K : PySem.W.Frag} {mg : Str → Option Value} {base : Heap} {f : Addr} {cdv : Value} {A : Around} {outer : List Env} {s : Shared} {H : Hp} {E : XK} {G : Gn} (T : Top K mg) (hgd : A.guards = some [])
    (hr : Room 2 (A.deeper (envOfC "_law_are_products_right" (defScope s_l_are_products_right) s.heap.objs.size f cdv))) :
    JSs (cxOf CX0 P w K mg base N_l_are_products_right "_law_are_products_right" (defScope s_l_are_products_right) f cdv A outer s H E).nox G (defBody s_l_are_products_right) (a_l_are_products_right fun p => G.H0 p = none) :=
    (jss_cons (js_par2 (i := 3) (j := 4) rfl sc_l_are_products_right.nd rfl rfl (by decide) rfl rfl (ja_cons (je_call (ok_l_draw T) (hr.mono (by decide)) hgd rfl T.m_l_draw T.F_l_draw.kp (b_l_draw T) (fun _ => passAt0) (@xok0 _ _ _) (ja_cons (je_var (pv 0)) (ja_cons je_int ja_nil))) (ja_cons (je_call (ok_l_great T) (hr.mono (by decide)) hgd rfl T.m_l_great T.F_l_great.kp (b_l_great T) (fun _ => passAt0) (@xok0 _ _ _) (ja_cons (je_var (pv 0)) (ja_cons (je_bin jo_pow je_int je_int) ja_nil))) ja_nil)) rfl)
    (jss_cons (js_set (i := 4) sc_l_are_products_right.nd rfl (Or.inl rfl) (je_join (je_if (jt_cmp (jo_eq hr.units) (je_call (ok_l_draw T) (hr.mono (by decide)) hgd rfl T.m_l_draw T.F_l_draw.kp (b_l_draw T) (fun _ => passAt0) (@xok0 _ _ _) (ja_cons (je_var (pv 0)) (ja_cons je_int ja_nil))) je_int (nomark _)) (je_var (pv 4)) (je_bin jo_mod (je_callTy jc_int rfl T.n_int (by decide +kernel) (ja_cons (je_var (pv 4)) ja_nil)) je_int))))
    (jss_cons (js_par2 (i := 5) (j := 6) rfl sc_l_are_products_right.nd rfl rfl (by decide) rfl rfl (ja_cons (je_call (ok_l_figures T) (hr.mono (by decide)) hgd rfl T.m_l_figures T.F_l_figures.kp (b_l_figures T) (fun _ => passAt0) (@xok0 _ _ _) (ja_cons (je_var (pv 3)) (ja_cons (je_var (pv 1)) (ja_cons (je_var (pv 2)) ja_nil)))) (ja_cons (je_call (ok_l_figures T) (hr.mono (by decide)) hgd rfl T.m_l_figures T.F_l_figures.kp (b_l_figures T) (fun _ => passAt0) (@xok0 _ _ _) (ja_cons (je_var (pv 4)) (ja_cons (je_var (pv 1)) (ja_cons (je_var (pv 2)) ja_nil)))) ja_nil)) rfl)
    (jss_cons (js_while PassesOwn.never (jt_cmp jo_gt (je_bin jo_mulI (je_bin jo_mulI (je_bin jo_sub (je_var (pv 1)) je_int) (je_bin jo_sub (je_var (pv 1)) je_int)) (je_callB jc_len rfl T.n_len (by decide +kernel) (ja_cons (je_var (pv 5)) ja_nil))) je_int (nomark _)) (jss_cons (js_set (i := 3) sc_l_are_products_right.nd rfl (Or.inl rfl) (je_bin jo_div (je_var (pv 3)) je_int))
    (jss_one (js_set (i := 5) sc_l_are_products_right.nd rfl (Or.inl rfl) (je_call (ok_l_figures T) (hr.mono (by decide)) hgd rfl T.m_l_figures T.F_l_figures.kp (b_l_figures T) (fun _ => passAt0) (@xok0 _ _ _) (ja_cons (je_var (pv 3)) (ja_cons (je_var (pv 1)) (ja_cons (je_var (pv 2)) ja_nil))))))))
    (jss_cons (js_set (i := 7) sc_l_are_products_right.nd rfl (Or.inl rfl) (je_bin (jo_mulB mok1) (je_lst mok0 (ja_cons je_int ja_nil)) (je_bin (jo_add mok0) (je_callB jc_len rfl T.n_len (by decide +kernel) (ja_cons (je_var (pv 5)) ja_nil)) (je_callB jc_len rfl T.n_len (by decide +kernel) (ja_cons (je_var (pv 6)) ja_nil)))))
    (jss_cons (js_for PassesOwn.never rfl (ji_enum2 rfl T.n_enumerate (ja_cons (je_var (pv 5)) ja_nil)) (jg_tup rfl (jgs1 (jg_name (i := 8) sc_l_are_products_right.nd rfl (Or.inl rfl)) (jgs1 (jg_name (i := 9) sc_l_are_products_right.nd rfl (Or.inl rfl)) jgs0))) (jss_one (js_for PassesOwn.never rfl (ji_enum2 rfl T.n_enumerate (ja_cons (je_var (pv 6)) ja_nil)) (jg_tup rfl (jgs1 (jg_name (i := 10) sc_l_are_products_right.nd rfl (Or.inl rfl)) (jgs1 (jg_name (i := 11) sc_l_are_products_right.nd rfl (Or.inl rfl)) jgs0))) (jss_one (js_setAt (by intro _ _ _ p q r; exact ps_asg p (pg_sub q r set_list)) (je_bin (jo_add mok0) (je_ix jx_seq (je_var (pv 7)) (je_bin (jo_add mok0) (je_var (pv 8)) (je_var (pv 10))) (fun _ _ => rfl)) (je_bin jo_mulI (je_var (pv 9)) (je_var (pv 11)))) (je_var (pv 7)) (je_bin (jo_add mok0) (je_var (pv 8)) (je_var (pv 10))))))))
    (jss_cons (js_par2 (i := 12) (j := 13) rfl sc_l_are_products_right.nd rfl rfl (by decide) rfl rfl (ja_cons (je_callTy jc_tupleOf rfl T.n_tuple (by decide +kernel) (ja_cons (je_var (pv 7)) ja_nil)) (ja_cons (je_call (ok_l_figures T) (hr.mono (by decide)) hgd rfl T.m_l_figures T.F_l_figures.kp (b_l_figures T) (fun _ => passAt0) (@xok0 _ _ _) (ja_cons (je_bin jo_mulI (je_bin jo_mulI (je_var (pv 2)) (je_var (pv 3))) (je_var (pv 4))) (ja_cons (je_var (pv 1)) (ja_cons (je_var (pv 2)) ja_nil)))) ja_nil)) rfl)
    (jss_one (js_retD (je_and (je_call (ok_l_same T) (hr.mono (by decide)) hgd rfl T.m_l_same T.F_l_same.kp (b_l_same T) (fun _ => passAt0) (@xok0 _ _ _) (ja_cons (je_call (ok_broken_carried T) (hr.mono (by decide)) hgd rfl T.m_broken_carried T.F_broken_carried.kp (b_broken_carried T) (fun _ => passAt0) (@xok0 _ _ _) (ja_cons (je_var (pv 12)) (ja_cons (je_var (pv 1)) (ja_cons (je_var (pv 2)) ja_nil)))) (ja_cons (je_var (pv 13)) ja_nil))) (je_one (je_call (ok_l_same T) (hr.mono (by decide)) hgd rfl T.m_l_same T.F_l_same.kp (b_l_same T) (fun _ => passAt0) (@xok0 _ _ _) (ja_cons (je_call (ok_broken_value T) (hr.mono (by decide)) hgd rfl T.m_broken_value T.F_broken_value.kp (b_broken_value T) (fun _ => passAt0) (@xok0 _ _ _) (ja_cons (je_var (pv 12)) (ja_cons (je_var (pv 1)) (ja_cons (je_var (pv 2)) ja_nil)))) (ja_cons (je_tup (ja_cons (je_bin jo_mulI (je_bin jo_mulI (je_var (pv 2)) (je_var (pv 3))) (je_var (pv 4))) (ja_cons je_int ja_nil))) ja_nil))))))))))))))
theorem ok_l_are_products_right {P : Program} {w : World} {K : PySem.W.Frag} {mg : Str → Option Value} {base : Heap} (T : Top K mg) : FnG P w K mg base CX0 3 T.f_l_are_products_right T.fd_l_are_products_right ["bag", "p", "q"] (spOf K c_l_are_products_right) :=
  fn_ok0 (k := 2) T.F_l_are_products_right sc_l_are_products_right ari_l_are_products_right (fun cdv A outer s H E G hgd hr => d_l_are_products_right T hgd hr) w_l_are_products_right
theorem d_l_are_any_right {P : Program} {w : World} {K : PySem.W.Frag} {mg : Str → Option Value} {base : Heap} {f : Addr} {cdv : Value} {A : Around} {outer : List Env} {s : Shared} {H : Hp} {E : XK} {G : Gn} (T : Top K mg) (hgd : A.guards = some [])
    (hr : Room 2 (A.deeper (envOfC "_law_are_any_right" (defScope s_l_are_any_right) s.heap.objs.size f cdv))) :
    JSs (cxOf CX0 P w K mg base N_l_are_any_right "_law_are_any_right" (defScope s_l_are_any_right) f cdv A outer s H E).nox G (defBody s_l_are_any_right) (a_l_are_any_right fun p => G.H0 p = none) :=
    (jss_cons (js_set (i := 3) sc_l_are_any_right.nd rfl (Or.inl rfl) (je_call (ok_l_pick T) (hr.mono (by decide)) hgd rfl T.m_l_pick T.F_l_pick.kp (b_l_pick T) (fun _ => passAt0) (@xok0 _ _ _) (ja_cons (je_var (pv 0)) (ja_cons (je_lst mok0 (ja_cons (je_call (ok_l_draw T) (hr.mono (by decide)) hgd rfl T.m_l_draw T.F_l_draw.kp (b_l_draw T) (fun _ => passAt0) (@xok0 _ _ _) (ja_cons (je_var (pv 0)) (ja_cons je_int ja_nil))) (ja_cons (je_call (ok_l_draw T) (hr.mono (by decide)) hgd rfl T.m_l_draw T.F_l_draw.kp (b_l_draw T) (fun _ => passAt0) (@xok0 _ _ _) (ja_cons (je_var (pv 0)) (ja_cons je_int ja_nil))) (ja_cons (je_bin (jo_add mok0) je_int (je_call (ok_l_draw T) (hr.mono (by decide)) hgd rfl T.m_l_draw T.F_l_draw.kp (b_l_draw T) (fun _ => passAt0) (@xok0 _ _ _) (ja_cons (je_var (pv 0)) (ja_cons je_int ja_nil)))) (ja_cons je_int (ja_cons je_int ja_nil)))))) ja_nil))))
    (jss_cons (js_set (i := 4) sc_l_are_any_right.nd rfl (Or.inr rfl) (je_call (ok_l_pick T) (hr.mono (by decide)) hgd rfl T.m_l_pick T.F_l_pick.kp (b_l_pick T) (fun _ => passAt0) (@xok0 _ _ _) (ja_cons (je_var (pv 0)) (ja_cons (je_lst mok0 (ja_cons (je_var (pv 1)) (ja_cons (je_bin jo_mulI je_int (je_var (pv 1))) (ja_cons je_int (ja_cons je_int ja_nil))))) ja_nil))))
    (jss_cons (lc2s (js_setLc mok0 rfl sc_l_are_any_right.nd rfl rfl (sw_true rfl rfl rfl (by decide +kernel)) (ji_range1 rfl T.n_range (ja_cons (je_bin (jo_add mok0) je_int (je_call (ok_l_draw T) (hr.mono (by decide)) hgd rfl T.m_l_draw T.F_l_draw.kp (b_l_draw T) (fun _ => passAt0) (@xok0 _ _ _) (ja_cons (je_var (pv 0)) (ja_cons je_int ja_nil)))) ja_nil)) (blkOk_by (own := [("turn", 7)]) (N := N_l_are_any_right) (sc := defScope s_l_are_any_right) (by decide +kernel)) (fun _ => (jgo_name (i := 7) (by first | decide | simp) sc_l_are_any_right.nd rfl (Or.inl rfl))) (fun _ => jts_nil) (fun _ => (je_call (ok_l_draw T) (hr.mono (by decide)) hgd rfl T.m_l_draw T.F_l_draw.kp (b_l_draw T) (fun _ => passAt0) (@xok0 _ _ _) (ja_cons (je_var (pv 0)) (ja_cons (je_var (pv 4)) ja_nil)))) (own := [("turn", 7)])))
    (jss_cons (js_set (i := 6) sc_l_are_any_right.nd rfl (Or.inl rfl) (je_sl mok1 (je_bin (jo_mulB mok0) (je_var (pv 5)) je_int) jp_none (jp_some (je_var (pv 3)))))
    (jss_cons (js_for PassesOwn.never rfl (ji_range1 rfl T.n_range (ja_cons (je_if (jt_cmp jo_gt (je_var (pv 3)) je_int (nomark _)) je_int je_int) ja_nil)) (jg_name (i := 7) sc_l_are_any_right.nd rfl (Or.inl rfl)) (jss_one (js_setAt (by intro _ _ _ p q r; exact ps_asg p (pg_sub q r set_list)) (je_call (ok_l_pick T) (hr.mono (by decide)) hgd rfl T.m_l_pick T.F_l_pick.kp (b_l_pick T) (fun _ => passAt0) (@xok0 _ _ _) (ja_cons (je_var (pv 0)) (ja_cons (je_lst mok0 (ja_cons je_int (ja_cons je_int (ja_cons (je_var (pv 1)) (ja_cons je_int (ja_cons (je_call (ok_l_draw T) (hr.mono (by decide)) hgd rfl T.m_l_draw T.F_l_draw.kp (b_l_draw T) (fun _ => passAt0) (@xok0 _ _ _) (ja_cons (je_var (pv 0)) (ja_cons (je_var (pv 4)) ja_nil))) ja_nil)))))) ja_nil))) (je_var (pv 6)) (je_call (ok_l_draw T) (hr.mono (by decide)) hgd rfl T.m_l_draw T.F_l_draw.kp (b_l_draw T) (fun _ => passAt0) (@xok0 _ _ _) (ja_cons (je_var (pv 0)) (ja_cons (je_var (pv 3)) ja_nil))))))
    (jss_cut (js_if (jw_pt (jw_and (jt_cmp jo_gt (je_var (pv 3)) je_int (nomark _)) (jw_and1 (jt_cmp jo_gt (je_call (ok_l_draw T) (hr.mono (by decide)) hgd rfl T.m_l_draw T.F_l_draw.kp (b_l_draw T) (fun _ => passAt0) (@xok0 _ _ _) (ja_cons (je_var (pv 0)) (ja_cons je_int ja_nil))) je_int (nomark _))))) (jss_one (js_setAt (by intro _ _ _ p q r; exact ps_asg p (pg_sub q r set_list)) (je_call (ok_l_pick T) (hr.mono (by decide)) hgd rfl T.m_l_pick T.F_l_pick.kp (b_l_pick T) (fun _ => passAt0) (@xok0 _ _ _) (ja_cons (je_var (pv 0)) (ja_cons (je_lst mok0 (ja_cons je_int (ja_cons je_int (ja_cons (je_bin jo_sub (je_var (pv 1)) je_int) (ja_cons (je_var (pv 1)) (ja_cons je_int ja_nil)))))) ja_nil))) (je_var (pv 6)) (je_un ju_neg je_int))) jss_nil)
    (jss_cons (js_set (i := 8) sc_l_are_any_right.nd rfl (Or.inl rfl) (je_callTy jc_tupleOf rfl T.n_tuple (by decide +kernel) (ja_cons (je_var (pv 6)) ja_nil)))
    (jss_cons (js_par2 (i := 9) (j := 10) rfl sc_l_are_any_right.nd rfl rfl (by decide) rfl rfl (ja_cons (je_call (ok_l_value T) (hr.mono (by decide)) hgd rfl T.m_l_value T.F_l_value.kp (b_l_value T) (fun _ => passAt0) (@xok0 _ _ _) (ja_cons (je_var (pv 8)) (ja_cons (je_var (pv 1)) (ja_cons (je_var (pv 2)) ja_nil)))) (ja_cons (je_call (ok_l_carried T) (hr.mono (by decide)) hgd rfl T.m_l_carried T.F_l_carried.kp (b_l_carried T) (fun _ => passAt0) (@xok0 _ _ _) (ja_cons (je_var (pv 8)) (ja_cons (je_var (pv 1)) (ja_cons (je_var (pv 2)) ja_nil)))) ja_nil)) rfl)
    (jss_cons (js_if (jw_pt (jw_or (jt_not (jt_of (je_call (ok_l_same T) (hr.mono (by decide)) hgd rfl T.m_l_same T.F_l_same.kp (b_l_same T) (fun _ => passAt0) (@xok0 _ _ _) (ja_cons (je_call (ok_broken_value T) (hr.mono (by decide)) hgd rfl T.m_broken_value T.F_broken_value.kp (b_broken_value T) (fun _ => passAt0) (@xok0 _ _ _) (ja_cons (je_var (pv 8)) (ja_cons (je_var (pv 1)) (ja_cons (je_var (pv 2)) ja_nil)))) (ja_cons (je_var (pv 9)) ja_nil))))) (jw_or1 (jt_not (jt_of (je_call (ok_l_same T) (hr.mono (by decide)) hgd rfl T.m_l_same T.F_l_same.kp (b_l_same T) (fun _ => passAt0) (@xok0 _ _ _) (ja_cons (je_call (ok_broken_carried T) (hr.mono (by decide)) hgd rfl T.m_broken_carried T.F_broken_carried.kp (b_broken_carried T) (fun _ => passAt0) (@xok0 _ _ _) (ja_cons (je_var (pv 8)) (ja_cons (je_var (pv 1)) (ja_cons (je_var (pv 2)) ja_nil)))) (ja_cons (je_var (pv 10)) ja_nil)))))))) (jss_one (js_retD je_bl)) jss_nil)
    (jss_cons (js_if (jw_pt (jw_and (jt_cmp jo_le (je_callB jc_len rfl T.n_len (by decide +kernel) (ja_cons (je_var (pv 10)) ja_nil)) je_int (nomark _)) (jw_and1 (jt_not (jt_of (je_call (ok_l_same T) (hr.mono (by decide)) hgd rfl T.m_l_same T.F_l_same.kp (b_l_same T) (fun _ => passAt0) (@xok0 _ _ _) (ja_cons (je_call (ok_broken_value T) (hr.mono (by decide)) hgd rfl T.m_broken_value T.F_broken_value.kp (b_broken_value T) (fun _ => passAt0) (@xok0 _ _ _) (ja_cons (je_var (pv 10)) (ja_cons (je_var (pv 1)) (ja_cons (je_var (pv 2)) ja_nil)))) (ja_cons (je_var (pv 9)) ja_nil)))))))) (jss_one (js_retD je_bl)) jss_nil)
    (jss_one (js_retD (je_and (je_call (ok_l_same T) (hr.mono (by decide)) hgd rfl T.m_l_same T.F_l_same.kp (b_l_same T) (fun _ => passAt0) (@xok0 _ _ _) (ja_cons (je_callK0 (ks := ["word", "p", "q"]) (ok_broken_carried T) (hr.mono (by decide)) hgd rfl T.m_broken_carried T.F_broken_carried.kp (kargs T.F_broken_carried (ps := ["word", "p", "q"]) (ks := ["word", "p", "q"]) (n := 0) (π := [0, 1, 2]) fun _ _ _ _ _ _ us ws h1 h2 => match us, ws, h1, h2 with | [], [_, _, _], _, _ => rfl) (by decide) (fun _ => passAt0) (@xok0 _ _ _) (jk_cons (je_var (pv 8)) (jk_cons (je_var (pv 1)) (jk_cons (je_var (pv 2)) jk_nil)))) (ja_cons (je_var (pv 10)) ja_nil))) (je_one (je_call (ok_l_same T) (hr.mono (by decide)) hgd rfl T.m_l_same T.F_l_same.kp (b_l_same T) (fun _ => passAt0) (@xok0 _ _ _) (ja_cons (je_callK0 (ks := ["word", "p", "q"]) (ok_broken_value T) (hr.mono (by decide)) hgd rfl T.m_broken_value T.F_broken_value.kp (kargs T.F_broken_value (ps := ["word", "p", "q"]) (ks := ["word", "p", "q"]) (n := 0) (π := [0, 1, 2]) fun _ _ _ _ _ _ us ws h1 h2 => match us, ws, h1, h2 with | [], [_, _, _], _, _ => rfl) (by decide) (fun _ => passAt0) (@xok0 _ _ _) (jk_cons (je_var (pv 8)) (jk_cons (je_var (pv 1)) (jk_cons (je_var (pv 2)) jk_nil)))) (ja_cons (je_var (pv 9)) ja_nil)))))))))))))))))
theorem ok_l_are_any_right {P : Program} {w : World} {K : PySem.W.Frag} {mg : Str → Option Value} {base : Heap} (T : Top K mg) : FnG P w K mg base CX0 3 T.f_l_are_any_right T.fd_l_are_any_right ["bag", "p", "q"] (spOf K c_l_are_any_right) :=
  fn_ok0 (k := 2) T.F_l_are_any_right sc_l_are_any_right ari_l_are_any_right (fun cdv A outer s H E G hgd hr => d_l_are_any_right T hgd hr) w_l_are_any_right
theorem d_l_are_long_judged {P : Program} {w : World} {K : PySem.W.Frag} {mg : Str → Option Value} {base : Heap} {f : Addr} {cdv : Value} {A : Around} {outer : List Env} {s : Shared} {H : Hp} {E : XK} {G : Gn} (T : Top K mg) (hgd : A.guards = some [])
    (hr : Room 2 (A.deeper (envOfC "_law_are_long_judged" (defScope s_l_are_long_judged) s.heap.objs.size f cdv))) :
    JSs (cxOf CX0 P w K mg base N_l_are_long_judged "_law_are_long_judged" (defScope s_l_are_long_judged) f cdv A outer s H E).nox G (defBody s_l_are_long_judged) (a_l_are_long_judged fun p => G.H0 p = none) :=
    (jss_cons (js_set (i := 3) sc_l_are_long_judged.nd rfl (Or.inl rfl) (je_join (je_if (jt_cmp (jo_eq hr.units) (je_call (ok_l_draw T) (hr.mono (by decide)) hgd rfl T.m_l_draw T.F_l_draw.kp (b_l_draw T) (fun _ => passAt0) (@xok0 _ _ _) (ja_cons (je_var (pv 0)) (ja_cons je_int ja_nil))) je_int (nomark _)) je_int (je_bin (jo_add mok0) je_int (je_call (ok_l_draw T) (hr.mono (by decide)) hgd rfl T.m_l_draw T.F_l_draw.kp (b_l_draw T) (fun _ => passAt0) (@xok0 _ _ _) (ja_cons (je_var (pv 0)) (ja_cons (je_call (ok_l_pick T) (hr.mono (by decide)) hgd rfl T.m_l_pick T.F_l_pick.kp (b_l_pick T) (fun _ => passAt0) (@xok0 _ _ _) (ja_cons (je_var (pv 0)) (ja_cons (je_lst mok0 (ja_cons je_int (ja_cons je_int (ja_cons je_int ja_nil)))) ja_nil))) ja_nil)))))))
    (jss_cons (js_set (i := 4) sc_l_are_long_judged.nd rfl (Or.inl rfl) (je_callTy (jc_listOf mok0) rfl T.n_list (by decide +kernel) (ja_cons (je_call (ok_l_grown T) (hr.mono (by decide)) hgd rfl T.m_l_grown T.F_l_grown.kp (b_l_grown T) (fun _ => passAt0) (@xok0 _ _ _) (ja_cons (je_var (pv 0)) (ja_cons (je_var (pv 1)) (ja_cons (je_var (pv 2)) (ja_cons (je_var (pv 3)) ja_nil))))) ja_nil)))
    (jss_cons (js_set (i := 5) sc_l_are_long_judged.nd rfl (Or.inl rfl) (je_call (ok_l_pick T) (hr.mono (by decide)) hgd rfl T.m_l_pick T.F_l_pick.kp (b_l_pick T) (fun _ => passAt0) (@xok0 _ _ _) (ja_cons (je_var (pv 0)) (ja_cons (je_lst mok0 (ja_cons je_int (ja_cons (je_bin jo_sub (je_var (pv 3)) je_int) (ja_cons (je_call (ok_l_draw T) (hr.mono (by decide)) hgd rfl T.m_l_draw T.F_l_draw.kp (b_l_draw T) (fun _ => passAt0) (@xok0 _ _ _) (ja_cons (je_var (pv 0)) (ja_cons (je_var (pv 3)) ja_nil))) ja_nil)))) ja_nil))))
    (jss_cons (js_set (i := 6) sc_l_are_long_judged.nd rfl (Or.inl rfl) (je_bin (jo_add mok0) (je_var (pv 5)) (je_call (ok_l_draw T) (hr.mono (by decide)) hgd rfl T.m_l_draw T.F_l_draw.kp (b_l_draw T) (fun _ => passAt0) (@xok0 _ _ _) (ja_cons (je_var (pv 0)) (ja_cons (je_bin jo_sub (je_var (pv 3)) (je_var (pv 5))) ja_nil)))))
    (jss_cons (js_set (i := 7) sc_l_are_long_judged.nd rfl (Or.inl rfl) (je_lst mok1 (ja_cons (je_tup (ja_cons (je_var (pv 4)) (ja_cons je_non ja_nil))) (ja_cons (je_tup (ja_cons (je_bin (jo_add mok0) (je_var (pv 4)) (je_lst mok0 (ja_cons je_int ja_nil))) (ja_cons (je_join (je_if (jt_cmp jo_lt (je_var (pv 3)) je_int (nomark _)) je_str je_str)) ja_nil))) (ja_cons (je_tup (ja_cons (je_bin (jo_add mok0) (je_bin (jo_add mok0) (je_sl mok0 (je_var (pv 4)) jp_none (jp_some (je_var (pv 5)))) (je_lst mok0 (ja_cons (je_var (pv 1)) ja_nil))) (je_sl mok0 (je_var (pv 4)) (jp_some (je_bin (jo_add mok0) (je_var (pv 5)) je_int)) jp_none)) (ja_cons (je_tup (ja_cons je_str (ja_cons (je_var (pv 5)) ja_nil))) ja_nil))) ja_nil)))))
    (jss_cons (js_expr (je_ml PySem.F.slot_list_append PySem.F.type_list_append jm_append (je_var (pv 7)) (ja_cons (je_tup (ja_cons (je_bin (jo_add mok0) (je_bin (jo_add mok0) (je_sl mok0 (je_var (pv 4)) jp_none (jp_some (je_var (pv 5)))) (je_lst mok0 (ja_cons (je_un ju_neg je_int) ja_nil))) (je_sl mok0 (je_var (pv 4)) (jp_some (je_bin (jo_add mok0) (je_var (pv 5)) je_int)) jp_none)) (ja_cons (je_tup (ja_cons je_str (ja_cons (je_var (pv 5)) ja_nil))) ja_nil))) ja_nil)))
    (jss_cons (js_expr (je_ml PySem.F.slot_list_append PySem.F.type_list_append jm_append (je_var (pv 7)) (ja_cons (je_tup (ja_cons (je_bin (jo_add mok0) (je_bin (jo_add mok0) (je_sl mok0 (je_var (pv 4)) jp_none (jp_some (je_var (pv 5)))) (je_lst mok0 (ja_cons (je_call (ok_l_pick T) (hr.mono (by decide)) hgd rfl T.m_l_pick T.F_l_pick.kp (b_l_pick T) (fun _ => passAt0) (@xok0 _ _ _) (ja_cons (je_var (pv 0)) (ja_cons (je_lst mok0 (ja_cons je_int (ja_cons (je_bin jo_pow je_int je_int) (ja_cons (je_un ju_neg je_int) (ja_cons (je_bin (jo_add mok0) (je_var (pv 1)) je_int) ja_nil))))) ja_nil))) ja_nil))) (je_sl mok0 (je_var (pv 4)) (jp_some (je_bin (jo_add mok0) (je_var (pv 5)) je_int)) jp_none)) (ja_cons (je_tup (ja_cons je_str (ja_cons (je_var (pv 5)) ja_nil))) ja_nil))) ja_nil)))
    (jss_cons (js_expr (je_ml PySem.F.slot_list_append PySem.F.type_list_append jm_append (je_var (pv 7)) (ja_cons (je_tup (ja_cons (je_bin (jo_add mok0) (je_bin (jo_add mok0) (je_sl mok0 (je_var (pv 4)) jp_none (jp_some (je_var (pv 5)))) (je_lst mok0 (ja_cons (je_call (ok_l_pick T) (hr.mono (by decide)) hgd rfl T.m_l_pick T.F_l_pick.kp (b_l_pick T) (fun _ => passAt0) (@xok0 _ _ _) (ja_cons (je_var (pv 0)) (ja_cons (je_lst mok0 (ja_cons je_bl (ja_cons je_non (ja_cons je_str (ja_cons (je_tup (ja_cons je_int ja_nil)) (ja_cons je_bl ja_nil)))))) ja_nil))) ja_nil))) (je_sl mok0 (je_var (pv 4)) (jp_some (je_bin (jo_add mok0) (je_var (pv 5)) je_int)) jp_none)) (ja_cons je_str ja_nil))) ja_nil)))
    (jss_cons (js_set (i := 8) sc_l_are_long_judged.nd rfl (Or.inl rfl) (je_join (je_if (jw_pt (jw_and (jt_cmp jo_gt (je_ix jx_seq (je_var (pv 4)) (je_var (pv 5)) (fun _ _ => rfl)) je_int (nomark _)) (jw_and1 (jw_pt (jw_or (jt_cmp (jo_eq hr.units) (je_ix jx_seq (je_var (pv 4)) (je_var (pv 5)) (fun _ _ => rfl)) (je_bin jo_sub (je_var (pv 1)) je_int) (nomark _)) (jw_or1 (jt_cmp (jo_eq hr.units) (je_call (ok_l_draw T) (hr.mono (by decide)) hgd rfl T.m_l_draw T.F_l_draw.kp (b_l_draw T) (fun _ => passAt0) (@xok0 _ _ _) (ja_cons (je_var (pv 0)) (ja_cons je_int ja_nil))) je_int (nomark _)))))))) (je_bin jo_sub (je_ix jx_seq (je_var (pv 4)) (je_var (pv 5)) (fun _ _ => rfl)) je_int) (je_bin (jo_add mok0) (je_ix jx_seq (je_var (pv 4)) (je_var (pv 5)) (fun _ _ => rfl)) je_int))))
    (jss_cut (js_if (jw_pt (jw_or (jt_cmp jo_lt (je_var (pv 5)) (je_bin jo_sub (je_var (pv 3)) je_int) (nomark _)) (jw_or1 (jt_cmp jo_gt (je_var (pv 8)) je_int (nomark _))))) (jss_one (js_expr (je_ml PySem.F.slot_list_append PySem.F.type_list_append jm_append (je_var (pv 7)) (ja_cons (je_tup (ja_cons (je_bin (jo_add mok0) (je_bin (jo_add mok0) (je_sl mok0 (je_var (pv 4)) jp_none (jp_some (je_var (pv 5)))) (je_lst mok0 (ja_cons (je_var (pv 8)) ja_nil))) (je_sl mok0 (je_var (pv 4)) (jp_some (je_bin (jo_add mok0) (je_var (pv 5)) je_int)) jp_none)) (ja_cons je_str ja_nil))) ja_nil)))) jss_nil)
    (jss_cut (js_if (jt_cmp jo_lt (je_var (pv 3)) je_int (nomark _)) (jss_cons (js_expr (je_ml PySem.F.slot_list_append PySem.F.type_list_append jm_append (je_var (pv 7)) (ja_cons (je_tup (ja_cons (je_bin (jo_add mok0) (je_var (pv 4)) (je_lst mok0 (ja_cons je_int (ja_cons je_int ja_nil)))) (ja_cons je_str ja_nil))) ja_nil)))
    (jss_one (js_expr (je_ml PySem.F.slot_list_append PySem.F.type_list_append jm_append (je_var (pv 7)) (ja_cons (je_tup (ja_cons (je_bin (jo_add mok0) (je_bin (jo_add mok0) (je_bin (jo_add mok0) (je_sl mok0 (je_var (pv 4)) jp_none (jp_some (je_var (pv 5)))) (je_lst mok0 (ja_cons (je_var (pv 1)) ja_nil))) (je_sl mok0 (je_var (pv 4)) (jp_some (je_bin (jo_add mok0) (je_var (pv 5)) je_int)) jp_none)) (je_lst mok0 (ja_cons je_int ja_nil))) (ja_cons (je_tup (ja_cons je_str (ja_cons (je_var (pv 5)) ja_nil))) ja_nil))) ja_nil))))) jss_nil)
    (jss_cons (js_set (i := 9) sc_l_are_long_judged.nd rfl (Or.inl rfl) (je_bin (jo_add mok1) (je_bin (jo_add mok0) (je_sl mok0 (je_var (pv 4)) jp_none (jp_some (je_var (pv 6)))) (je_lst mok0 (ja_cons (je_bin (jo_add mok0) (je_var (pv 1)) je_int) ja_nil))) (je_sl mok0 (je_var (pv 4)) (jp_some (je_bin (jo_add mok0) (je_var (pv 6)) je_int)) jp_none)))
    (jss_cons (js_setAt (by intro _ _ _ p q r; exact ps_asg p (pg_sub q r set_list)) (je_var (pv 1)) (je_var (pv 9)) (je_var (pv 5)))
    (jss_cons (js_fz (i := 9) (js_expr (je_ml PySem.F.slot_list_append PySem.F.type_list_append jm_append (je_var (pv 7)) (ja_cons (je_tup (ja_cons (je_var (pv 9)) (ja_cons (je_tup (ja_cons je_str (ja_cons (je_var (pv 5)) ja_nil))) ja_nil))) ja_nil))))
    (jss_cons (js_set (i := 10) sc_l_are_long_judged.nd rfl (Or.inl rfl) (je_callTy (jc_listOf mok1) rfl T.n_list (by decide +kernel) (ja_cons (je_var (pv 9)) ja_nil)))
    (jss_cons (js_setAt (by intro _ _ _ p q r; exact ps_asg p (pg_sub q r set_list)) je_bl (je_var (pv 10)) (je_var (pv 6)))
    (jss_cons (js_fz (i := 10) (js_expr (je_ml PySem.F.slot_list_append PySem.F.type_list_append jm_append (je_var (pv 7)) (ja_cons (je_tup (ja_cons (je_var (pv 10)) (ja_cons je_str ja_nil))) ja_nil))))
    (jss_cons (js_for PassesOwn.never rfl (ji_of (je_var (pv 7))) (jg_tup rfl (jgs1 (jg_name (i := 11) sc_l_are_long_judged.nd rfl (Or.inl rfl)) (jgs1 (jg_name (i := 12) sc_l_are_long_judged.nd rfl (Or.inl rfl)) jgs0))) (jss_one (js_if (jt_not (jt_of (je_call (ok_l_same T) (hr.mono (by decide)) hgd rfl T.m_l_same T.F_l_same.kp (b_l_same T) (fun _ => passAt0) (@xok0 _ _ _) (ja_cons (je_call (ok_broken_error T) (hr.mono (by decide)) hgd rfl T.m_broken_error T.F_broken_error.kp (b_broken_error T) (fun _ => passAt0) (@xok0 _ _ _) (ja_cons (je_callTy jc_tupleOf rfl T.n_tuple (by decide +kernel) (ja_cons (je_var (pv 11)) ja_nil)) (ja_cons (je_var (pv 1)) (ja_cons (je_var (pv 2)) ja_nil)))) (ja_cons (je_var (pv 12)) ja_nil))))) (jss_one (js_retD je_bl)) jss_nil)))
    (jss_one (js_retD (je_and (je_call (ok_l_same T) (hr.mono (by decide)) hgd rfl T.m_l_same T.F_l_same.kp (b_l_same T) (fun _ => passAt0) (@xok0 _ _ _) (ja_cons (je_call (ok_broken_error T) (hr.mono (by decide)) hgd rfl T.m_broken_error T.F_broken_error.kp (b_broken_error T) (fun _ => passAt0) (@xok0 _ _ _) (ja_cons (je_callTy jc_tupleOf rfl T.n_tuple (by decide +kernel) (ja_cons (je_var (pv 4)) ja_nil)) (ja_cons (je_var (pv 1)) (ja_cons (je_var (pv 2)) ja_nil)))) (ja_cons je_non ja_nil))) (je_one (je_call (ok_l_same T) (hr.mono (by decide)) hgd rfl T.m_l_same T.F_l_same.kp (b_l_same T) (fun _ => passAt0) (@xok0 _ _ _) (ja_cons (je_call (ok_broken_error T) (hr.mono (by decide)) hgd rfl T.m_broken_error T.F_broken_error.kp (b_broken_error T) (fun _ => passAt0) (@xok0 _ _ _) (ja_cons (je_var (pv 4)) (ja_cons (je_var (pv 1)) (ja_cons (je_var (pv 2)) ja_nil)))) (ja_cons je_str ja_nil)))))))))))))))))))))))))
theorem ok_l_are_long_judged {P : Program} {w : World} {K : PySem.W.Frag} {mg : Str → Option Value} {base : Heap} (T : Top K mg) : FnG P w K mg base CX0 3 T.f_l_are_long_judged T.fd_l_are_long_judged ["bag", "p", "q"] (spOf K c_l_are_long_judged) :=
  fn_ok0 (k := 2) T.F_l_are_long_judged sc_l_are_long_judged ari_l_are_long_judged (fun cdv A outer s H E G hgd hr => d_l_are_long_judged T hgd hr) w_l_are_long_judged
theorem d_l_are_short_judged {P : Program} {w : World} {K : PySem.W.Frag} {mg : Str → Option Value} {base : Heap} {f : Addr} {cdv : Value} {A : Around} {outer : List Env} {s : Shared} {H : Hp} {E : XK} {G : Gn} (T : Top K mg) (hgd : A.guards = some [])
    (hr : Room 2 (A.deeper (envOfC "_law_are_short_judged" (defScope s_l_are_short_judged) s.heap.objs.size f cdv))) :
    JSs (cxOf CX0 P w K mg base N_l_are_short_judged "_law_are_short_judged" (defScope s_l_are_short_judged) f cdv A outer s H E).nox G (defBody s_l_are_short_judged) (a_l_are_short_judged fun p => G.H0 p = none) :=
    (jss_cut (js_if (jt_cmp (jo_eq hr.units) (je_call (ok_l_draw T) (hr.mono (by decide)) hgd rfl T.m_l_draw T.F_l_draw.kp (b_l_draw T) (fun _ => passAt0) (@xok0 _ _ _) (ja_cons (je_var (pv 0)) (ja_cons je_int ja_nil))) je_int (nomark _)) (jss_cons (js_set (i := 3) sc_l_are_short_judged.nd rfl (Or.inl rfl) (je_call (ok_l_grown T) (hr.mono (by decide)) hgd rfl T.m_l_grown T.F_l_grown.kp (b_l_grown T) (fun _ => passAt0) (@xok0 _ _ _) (ja_cons (je_var (pv 0)) (ja_cons (je_var (pv 1)) (ja_cons (je_var (pv 2)) (ja_cons je_int ja_nil))))))
    (jss_one (js_if (jw_pt (jw_or (jt_not (jt_of (je_call (ok_l_same T) (hr.mono (by decide)) hgd rfl T.m_l_same T.F_l_same.kp (b_l_same T) (fun _ => passAt0) (@xok0 _ _ _) (ja_cons (je_call (ok_broken_error T) (hr.mono (by decide)) hgd rfl T.m_broken_error T.F_broken_error.kp (b_broken_error T) (fun _ => passAt0) (@xok0 _ _ _) (ja_cons (je_var (pv 3)) (ja_cons (je_var (pv 1)) (ja_cons (je_var (pv 2)) ja_nil)))) (ja_cons je_str ja_nil))))) (jw_or1 (jt_not (jt_of (je_call (ok_l_same T) (hr.mono (by decide)) hgd rfl T.m_l_same T.F_l_same.kp (b_l_same T) (fun _ => passAt0) (@xok0 _ _ _) (ja_cons (je_call (ok_broken_error T) (hr.mono (by decide)) hgd rfl T.m_broken_error T.F_broken_error.kp (b_broken_error T) (fun _ => passAt0) (@xok0 _ _ _) (ja_cons (je_sl mok0 (je_var (pv 3)) (jp_some je_int) jp_none) (ja_cons (je_var (pv 1)) (ja_cons (je_var (pv 2)) ja_nil)))) (ja_cons je_non ja_nil)))))))) (jss_one (js_retD je_bl)) jss_nil))) jss_nil)
    (jss_cons (js_set (i := 4) sc_l_are_short_judged.nd rfl (Or.inl rfl) (je_lst mok1 (ja_cons (je_tup ja_nil) (ja_cons (je_tup (ja_cons (je_var (pv 2)) ja_nil)) (ja_cons (je_tup (ja_cons je_int ja_nil)) (ja_cons (je_tup (ja_cons je_int ja_nil)) (ja_cons (je_tup (ja_cons (je_bin jo_sub (je_var (pv 1)) je_int) (ja_cons (je_var (pv 2)) ja_nil))) (ja_cons (je_tup (ja_cons je_int (ja_cons je_int ja_nil))) ja_nil))))))))
    (jss_cons (js_for PassesOwn.never rfl (ji_range1 rfl T.n_range (ja_cons je_int ja_nil)) (jg_name (i := 5) sc_l_are_short_judged.nd rfl (Or.inl rfl)) (jss_cons (js_asg (je_call (ok_l_pick T) (hr.mono (by decide)) hgd rfl T.m_l_pick T.F_l_pick.kp (b_l_pick T) (fun _ => passAt0) (@xok0 _ _ _) (ja_cons (je_var (pv 0)) (ja_cons (je_lst mok0 (ja_cons (je_tup (ja_cons je_int (ja_cons (je_var (pv 1)) ja_nil))) (ja_cons (je_tup (ja_cons je_int (ja_cons (je_var (pv 1)) ja_nil))) (ja_cons (je_tup (ja_cons (je_un ju_neg je_int) (ja_cons (je_bin (jo_add mok0) (je_var (pv 1)) je_int) ja_nil))) ja_nil)))) ja_nil))) (jg_tup rfl (jgs1 (jg_name (i := 6) sc_l_are_short_judged.nd rfl (Or.inr rfl)) (jgs1 (jg_name (i := 7) sc_l_are_short_judged.nd rfl (Or.inr rfl)) jgs0))))
    (jss_one (js_expr (je_ml PySem.F.slot_list_append PySem.F.type_list_append jm_append (je_var (pv 4)) (ja_cons (je_callTy jc_tupleOf rfl T.n_tuple (by decide +kernel) (ja_cons (lc2 (je_lc mok0 rfl sc_l_are_short_judged.nd (ji_range1 rfl T.n_range (ja_cons (je_bin (jo_add mok0) je_int (je_call (ok_l_draw T) (hr.mono (by decide)) hgd rfl T.m_l_draw T.F_l_draw.kp (b_l_draw T) (fun _ => passAt0) (@xok0 _ _ _) (ja_cons (je_var (pv 0)) (ja_cons je_int ja_nil)))) ja_nil)) (blkOk_by (own := [("item", 10)]) (N := N_l_are_short_judged) (sc := defScope s_l_are_short_judged) (by decide +kernel)) (fun _ => (jgo_name (i := 10) (by first | decide | simp) sc_l_are_short_judged.nd rfl (Or.inl rfl))) (fun _ => jts_nil) (fun _ => (je_bin (jo_add mok0) (je_var (pv 6)) (je_call (ok_l_draw T) (hr.mono (by decide)) hgd rfl T.m_l_draw T.F_l_draw.kp (b_l_draw T) (fun _ => passAt0) (@xok0 _ _ _) (ja_cons (je_var (pv 0)) (ja_cons (je_bin jo_sub (je_var (pv 7)) (je_var (pv 6))) ja_nil))))) (own := [("item", 10)]))) ja_nil)) ja_nil))))))
    (jss_cons (js_expr (je_ml PySem.F.slot_list_extend PySem.F.type_list_extend jm_extend (je_var (pv 4)) (ja_cons (je_lst mok0 (ja_cons je_non (ja_cons je_bl (ja_cons je_int (ja_cons (je_var (pv 2)) (ja_cons je_str (ja_cons (je_callTy jc_strI rfl T.n_str (by decide +kernel) (ja_cons (je_var (pv 2)) ja_nil)) (ja_cons (je_lst mok0 ja_nil) (ja_cons (je_lst mok0 (ja_cons (je_var (pv 2)) ja_nil)) (ja_cons je_dnewD (ja_cons (je_tup (ja_cons (je_tup (ja_cons (je_var (pv 2)) ja_nil)) ja_nil)) (ja_cons (je_tup (ja_cons je_non ja_nil)) (ja_cons (je_tup (ja_cons je_bl ja_nil)) (ja_cons (je_tup (ja_cons (je_var (pv 2)) (ja_cons je_bl ja_nil))) (ja_cons (je_tup (ja_cons je_int (ja_cons je_bl ja_nil))) ja_nil))))))))))))))) ja_nil)))
    (jss_cons (js_set (i := 8) sc_l_are_short_judged.nd rfl (Or.inl rfl) (je_callB (jc_reprB hr.units hgd T.dg) rfl T.n_repr (by decide +kernel) (ja_cons (je_var (pv 4)) ja_nil)))
    (jss_cons (js_for PassesOwn.never rfl (ji_of (je_var (pv 4))) (jg_name (i := 9) sc_l_are_short_judged.nd rfl (Or.inl rfl)) (jss_one (js_if (jt_not (jt_of (je_call (ok_l_same T) (hr.mono (by decide)) hgd rfl T.m_l_same T.F_l_same.kp (b_l_same T) (fun _ => passAt0) (@xok0 _ _ _) (ja_cons (je_callK0 (ks := ["value", "p", "q"]) (ok_broken_error T) (hr.mono (by decide)) hgd rfl T.m_broken_error T.F_broken_error.kp (kargs T.F_broken_error (ps := ["value", "p", "q"]) (ks := ["value", "p", "q"]) (n := 0) (π := [0, 1, 2]) fun _ _ _ _ _ _ us ws h1 h2 => match us, ws, h1, h2 with | [], [_, _, _], _, _ => rfl) (by decide) (fun _ => passAt0) (@xok0 _ _ _) (jk_cons (je_var (pv 9)) (jk_cons (je_var (pv 1)) (jk_cons (je_var (pv 2)) jk_nil)))) (ja_cons (je_call (ok_l_judged T) (hr.mono (by decide)) hgd rfl T.m_l_judged T.F_l_judged.kp (b_l_judged T) (fun _ => passAt0) (@xok0 _ _ _) (ja_cons (je_var (pv 9)) (ja_cons (je_var (pv 1)) (ja_cons (je_var (pv 2)) ja_nil)))) ja_nil))))) (jss_one (js_retD je_bl)) jss_nil)))
    (jss_one (js_retD (je_cmp (jo_eq hr.units) (je_callB (jc_reprB hr.units hgd T.dg) rfl T.n_repr (by decide +kernel) (ja_cons (je_var (pv 4)) ja_nil)) (je_var (pv 8)) (nomark _))))))))))
theorem ok_l_are_short_judged {P : Program} {w : World} {K : PySem.W.Frag} {mg : Str → Option Value} {base : Heap} (T : Top K mg) : FnG P w K mg base CX0 3 T.f_l_are_short_judged T.fd_l_are_short_judged ["bag", "p", "q"] (spOf K c_l_are_short_judged) :=
  fn_ok0 (k := 2) T.F_l_are_short_judged sc_l_are_short_judged ari_l_are_short_judged (fun cdv A outer s H E G hgd hr => d_l_are_short_judged T hgd hr) w_l_are_short_judged
theorem d_l_are_numbers_right {P : Program} {w : World} {K : PySem.W.Frag} {mg : Str → Option Value} {base : Heap} {f : Addr} {cdv : Value} {A : Around} {outer : List Env} {s : Shared} {H : Hp} {E : XK} {G : Gn} (T : Top K mg) (hgd : A.guards = some [])
    (hr : Room 3 (A.deeper (envOfC "_law_are_numbers_right" (defScope s_l_are_numbers_right) s.heap.objs.size f cdv))) :
    JSs (cxOf CX0 P w K mg base N_l_are_numbers_right "_law_are_numbers_right" (defScope s_l_are_numbers_right) f cdv A outer s H E).nox G (defBody s_l_are_numbers_right) (a_l_are_numbers_right fun p => G.H0 p = none) :=
    (jss_cons (js_asg (je_tup (ja_cons je_int (ja_cons (je_tup ja_nil) ja_nil))) (jg_tup rfl (jgs1 (jg_name (i := 4) sc_l_are_numbers_right.nd rfl (Or.inl rfl)) (jgs1 (jg_name (i := 5) sc_l_are_numbers_right.nd rfl (Or.inl rfl)) jgs0))))
    (jss_cons (js_for PassesOwn.never rfl (ji_of (je_lst mok0 (ja_cons je_int (ja_cons (je_bin (jo_add mok0) je_int (je_call (ok_l_draw T) (hr.mono (by decide)) hgd rfl T.m_l_draw T.F_l_draw.kp (b_l_draw T) (fun _ => passAt0) (@xok0 _ _ _) (ja_cons (je_var (pv 0)) (ja_cons je_int ja_nil)))) (ja_cons (je_call (ok_l_number T) (hr.mono (by decide)) hgd rfl T.m_l_number T.F_l_number.kp (b_l_number T) (fun _ => passAt0) (@xok0 _ _ _) (ja_cons (je_var (pv 0)) ja_nil)) (ja_cons (je_call (ok_l_number T) (hr.mono (by decide)) hgd rfl T.m_l_number T.F_l_number.kp (b_l_number T) (fun _ => passAt0) (@xok0 _ _ _) (ja_cons (je_var (pv 0)) ja_nil)) ja_nil)))))) (jg_name (i := 4) sc_l_are_numbers_right.nd rfl (Or.inl rfl)) (jss_cons (js_set (i := 5) sc_l_are_numbers_right.nd rfl (Or.inl rfl) (je_call (ok_l_figures T) (hr.mono (by decide)) hgd rfl T.m_l_figures T.F_l_figures.kp (b_l_figures T) (fun _ => passAt0) (@xok0 _ _ _) (ja_cons (je_var (pv 4)) (ja_cons (je_var (pv 1)) (ja_cons (je_var (pv 2)) ja_nil)))))
    (jss_cons (js_if (jt_not (jt_of (je_call (ok_l_same T) (hr.mono (by decide)) hgd rfl T.m_l_same T.F_l_same.kp (b_l_same T) (fun _ => passAt0) (@xok0 _ _ _) (ja_cons (je_call (ok_broken_figures T) (hr.mono (by decide)) hgd rfl T.m_broken_figures T.F_broken_figures.kp (b_broken_figures T) (fun _ => passAt0) (@xok0 _ _ _) (ja_cons (je_var (pv 4)) (ja_cons (je_var (pv 1)) (ja_cons (je_var (pv 2)) ja_nil)))) (ja_cons (je_var (pv 5)) ja_nil))))) (jss_one (js_ret je_bl)) jss_nil)
    (jss_cons (js_if (jw_pt (jw_or (jt_not (jt_of (je_call (ok_l_same T) (hr.mono (by decide)) hgd rfl T.m_l_same T.F_l_same.kp (b_l_same T) (fun _ => passAt0) (@xok0 _ _ _) (ja_cons (je_call (ok_broken_value T) (hr.mono (by decide)) hgd rfl T.m_broken_value T.F_broken_value.kp (b_broken_value T) (fun _ => passAt0) (@xok0 _ _ _) (ja_cons (je_var (pv 5)) (ja_cons (je_var (pv 1)) (ja_cons (je_var (pv 2)) ja_nil)))) (ja_cons (je_tup (ja_cons (je_var (pv 4)) (ja_cons je_int ja_nil))) ja_nil))))) (jw_or1 (jt_cmp jo_isnot (je_call (ok_broken_error T) (hr.mono (by decide)) hgd rfl T.m_broken_error T.F_broken_error.kp (b_broken_error T) (fun _ => passAt0) (@xok0 _ _ _) (ja_cons (je_var (pv 5)) (ja_cons (je_var (pv 1)) (ja_cons (je_var (pv 2)) ja_nil)))) je_non (nomark _))))) (jss_one (js_ret je_bl)) jss_nil)
    (jss_one (js_if (jt_not (jt_of (je_call (ok_l_same T) (hr.mono (by decide)) hgd rfl T.m_l_same T.F_l_same.kp (b_l_same T) (fun _ => passAt0) (@xok0 _ _ _) (ja_cons (je_call (ok_broken_carried T) (hr.mono (by decide)) hgd rfl T.m_broken_carried T.F_broken_carried.kp (b_broken_carried T) (fun _ => passAt0) (@xok0 _ _ _) (ja_cons (je_var (pv 5)) (ja_cons (je_var (pv 1)) (ja_cons (je_var (pv 2)) ja_nil)))) (ja_cons (je_var (pv 5)) ja_nil))))) (jss_one (js_ret je_bl)) jss_nil))))))
    (jss_cons (js_if (jt_not (jt_of (je_call (ok_l_same T) (hr.mono (by decide)) hgd rfl T.m_l_same T.F_l_same.kp (b_l_same T) (fun _ => passAt0) (@xok0 _ _ _) (ja_cons (je_callK0 (ks := ["number", "p", "q"]) (ok_broken_figures T) (hr.mono (by decide)) hgd rfl T.m_broken_figures T.F_broken_figures.kp (kargs T.F_broken_figures (ps := ["number", "p", "q"]) (ks := ["number", "p", "q"]) (n := 0) (π := [0, 1, 2]) fun _ _ _ _ _ _ us ws h1 h2 => match us, ws, h1, h2 with | [], [_, _, _], _, _ => rfl) (by decide) (fun _ => passAt0) (@xok0 _ _ _) (jk_cons (je_var (pv 4)) (jk_cons (je_ix jx_seq (je_var (pv 3)) je_int (fun _ _ => rfl)) (jk_cons (je_ix jx_seq (je_var (pv 3)) je_int (fun _ _ => rfl)) jk_nil)))) (ja_cons (je_call (ok_l_figures T) (hr.mono (by decide)) hgd rfl T.m_l_figures T.F_l_figures.kp (b_l_figures T) (fun _ => passAt0) (@xok0 _ _ _) (ja_cons (je_var (pv 4)) (ja_cons (je_ix jx_seq (je_var (pv 3)) je_int (fun _ _ => rfl)) (ja_cons (je_ix jx_seq (je_var (pv 3)) je_int (fun _ _ => rfl)) ja_nil)))) ja_nil))))) (jss_one (js_ret je_bl)) jss_nil)
    (jss_cons (js_if (jt_not (jt_of (je_call (ok_l_same T) (hr.mono (by decide)) hgd rfl T.m_l_same T.F_l_same.kp (b_l_same T) (fun _ => passAt0) (@xok0 _ _ _) (ja_cons (je_callK0 (ks := ["word", "p", "q"]) (ok_broken_value T) (hr.mono (by decide)) hgd rfl T.m_broken_value T.F_broken_value.kp (kargs T.F_broken_value (ps := ["word", "p", "q"]) (ks := ["word", "p", "q"]) (n := 0) (π := [0, 1, 2]) fun _ _ _ _ _ _ us ws h1 h2 => match us, ws, h1, h2 with | [], [_, _, _], _, _ => rfl) (by decide) (fun _ => passAt0) (@xok0 _ _ _) (jk_cons (je_var (pv 5)) (jk_cons (je_var (pv 1)) (jk_cons (je_var (pv 2)) jk_nil)))) (ja_cons (je_tup (ja_cons (je_var (pv 4)) (ja_cons je_int ja_nil))) ja_nil))))) (jss_one (js_ret je_bl)) jss_nil)
    (jss_one (js_ret (je_call (ok_l_same T) (hr.mono (by decide)) hgd rfl T.m_l_same T.F_l_same.kp (b_l_same T) (fun _ => passAt0) (@xok0 _ _ _) (ja_cons (je_callK0 (ks := ["number", "p", "q"]) (ok_broken_figures T) (hr.mono (by decide)) hgd rfl T.m_broken_figures T.F_broken_figures.kp (kargs T.F_broken_figures (ps := ["number", "p", "q"]) (ks := ["number", "p", "q"]) (n := 0) (π := [0, 1, 2]) fun _ _ _ _ _ _ us ws h1 h2 => match us, ws, h1, h2 with | [], [_, _, _], _, _ => rfl) (by decide) (fun _ => passAt0) (@xok0 _ _ _) (jk_cons (je_var (pv 4)) (jk_cons (je_var (pv 1)) (jk_cons (je_var (pv 2)) jk_nil)))) (ja_cons (je_var (pv 5)) ja_nil)))))))))
theorem ok_l_are_numbers_right {P : Program} {w : World} {K : PySem.W.Frag} {mg : Str → Option Value} {base : Heap} (T : Top K mg) : FnG P w K mg base CX0 4 T.f_l_are_numbers_right T.fd_l_are_numbers_right ["bag", "p", "q", "other"] (spOf K c_l_are_numbers_right) :=
  fn_ok0 (k := 3) T.F_l_are_numbers_right sc_l_are_numbers_right ari_l_are_numbers_right (fun cdv A outer s H E G hgd hr => d_l_are_numbers_right T hgd hr) w_l_are_numbers_right
theorem d_l_are_sums_right {P : Program} {w : World} {K : PySem.W.Frag} {mg : Str → Option Value} {base : Heap} {f : Addr} {cdv : Value} {A : Around} {outer : List Env} {s : Shared} {H : Hp} {E : XK} {G : Gn} (T : Top K mg) (hgd : A.guards = some [])
    (hr : Room 3 (A.deeper (envOfC "_law_are_sums_right" (defScope s_l_are_sums_right) s.heap.objs.size f cdv))) :
    JSs (cxOf CX0 P w K mg base N_l_are_sums_right "_law_are_sums_right" (defScope s_l_are_sums_right) f cdv A outer s H E).nox G (defBody s_l_are_sums_right) (a_l_are_sums_right fun p => G.H0 p = none) :=
    (jss_cons (js_par3 (i := 3) (j := 4) (l := 5) rfl sc_l_are_sums_right.nd rfl rfl rfl (by decide) (by decide) (by decide) rfl rfl rfl (ja_cons (je_call (ok_l_number T) (hr.mono (by decide)) hgd rfl T.m_l_number T.F_l_number.kp (b_l_number T) (fun _ => passAt0) (@xok0 _ _ _) (ja_cons (je_var (pv 0)) ja_nil)) (ja_cons (je_call (ok_l_number T) (hr.mono (by decide)) hgd rfl T.m_l_number T.F_l_number.kp (b_l_number T) (fun _ => passAt0) (@xok0 _ _ _) (ja_cons (je_var (pv 0)) ja_nil)) (ja_cons (je_bin jo_div je_int (je_bin jo_sub (je_var (pv 1)) je_int)) ja_nil))) rfl)
    (jss_cons (js_asg (je_tup (ja_cons (je_callTy (jc_listOf mok0) rfl T.n_list (by decide +kernel) (ja_cons (je_call (ok_l_figures T) (hr.mono (by decide)) hgd rfl T.m_l_figures T.F_l_figures.kp (b_l_figures T) (fun _ => passAt0) (@xok0 _ _ _) (ja_cons (je_var (pv 3)) (ja_cons (je_var (pv 1)) (ja_cons (je_var (pv 2)) ja_nil)))) ja_nil)) (ja_cons (je_call (ok_l_figures T) (hr.mono (by decide)) hgd rfl T.m_l_figures T.F_l_figures.kp (b_l_figures T) (fun _ => passAt0) (@xok0 _ _ _) (ja_cons (je_var (pv 4)) (ja_cons (je_var (pv 1)) (ja_cons (je_var (pv 2)) ja_nil)))) ja_nil))) (jg_tup rfl (jgs1 (jg_name (i := 6) sc_l_are_sums_right.nd rfl (Or.inl rfl)) (jgs1 (jg_name (i := 7) sc_l_are_sums_right.nd rfl (Or.inr rfl)) jgs0))))
    (jss_cons (js_set (i := 6) sc_l_are_sums_right.nd rfl (Or.inl rfl) (je_bin (jo_add mok0) (je_var (pv 6)) (je_bin (jo_mulB mok0) (je_lst mok0 (ja_cons je_int ja_nil)) (je_bin jo_sub (je_callB jc_len rfl T.n_len (by decide +kernel) (ja_cons (je_var (pv 7)) ja_nil)) (je_callB jc_len rfl T.n_len (by decide +kernel) (ja_cons (je_var (pv 6)) ja_nil))))))
    (jss_cons (js_set (i := 8) sc_l_are_sums_right.nd rfl (Or.inl rfl) (je_callTy jc_tupleOf rfl T.n_tuple (by decide +kernel) (ja_cons (lc2 (je_lc mok0 rfl sc_l_are_sums_right.nd (ji_enum2 rfl T.n_enumerate (ja_cons (je_var (pv 6)) ja_nil)) (blkOk_by (own := [("j", 12), ("figure", 13)]) (N := N_l_are_sums_right) (sc := defScope s_l_are_sums_right) (by decide +kernel)) (fun _ => (jgo_tup rfl (jgso1 (jgo_name (i := 12) (by first | decide | simp) sc_l_are_sums_right.nd rfl (Or.inl rfl)) (jgso1 (jgo_name (i := 13) (by first | decide | simp) sc_l_are_sums_right.nd rfl (Or.inl rfl)) jgso0)))) (fun _ => jts_nil) (fun _ => (je_bin (jo_add mok0) (je_var (pv 13)) (je_if (jt_cmp jo_lt (je_var (pv 12)) (je_callB jc_len rfl T.n_len (by decide +kernel) (ja_cons (je_var (pv 7)) ja_nil)) (nomark _)) (je_ix jx_seq (je_var (pv 7)) (je_var (pv 12)) (fun _ _ => rfl)) je_int))) (own := [("j", 12), ("figure", 13)]))) ja_nil)))
    (jss_cons (js_set (i := 9) sc_l_are_sums_right.nd rfl (Or.inl rfl) (je_call (ok_l_figures T) (hr.mono (by decide)) hgd rfl T.m_l_figures T.F_l_figures.kp (b_l_figures T) (fun _ => passAt0) (@xok0 _ _ _) (ja_cons (je_bin (jo_add mok0) (je_var (pv 3)) (je_var (pv 4))) (ja_cons (je_var (pv 1)) (ja_cons (je_var (pv 2)) ja_nil)))))
    (jss_cons (js_if (jw_pt (jw_or (jt_not (jt_of (je_call (ok_l_same T) (hr.mono (by decide)) hgd rfl T.m_l_same T.F_l_same.kp (b_l_same T) (fun _ => passAt0) (@xok0 _ _ _) (ja_cons (je_call (ok_broken_carried T) (hr.mono (by decide)) hgd rfl T.m_broken_carried T.F_broken_carried.kp (b_broken_carried T) (fun _ => passAt0) (@xok0 _ _ _) (ja_cons (je_var (pv 8)) (ja_cons (je_var (pv 1)) (ja_cons (je_var (pv 2)) ja_nil)))) (ja_cons (je_var (pv 9)) ja_nil))))) (jw_or1 (jt_not (jt_of (je_call (ok_l_same T) (hr.mono (by decide)) hgd rfl T.m_l_same T.F_l_same.kp (b_l_same T) (fun _ => passAt0) (@xok0 _ _ _) (ja_cons (je_call (ok_broken_value T) (hr.mono (by decide)) hgd rfl T.m_broken_value T.F_broken_value.kp (b_broken_value T) (fun _ => passAt0) (@xok0 _ _ _) (ja_cons (je_var (pv 8)) (ja_cons (je_var (pv 1)) (ja_cons (je_var (pv 2)) ja_nil)))) (ja_cons (je_tup (ja_cons (je_bin (jo_add mok0) (je_var (pv 3)) (je_var (pv 4))) (ja_cons je_int ja_nil))) ja_nil)))))))) (jss_one (js_ret je_bl)) jss_nil)
    (jss_cons (js_set (i := 10) sc_l_are_sums_right.nd rfl (Or.inl rfl) (je_call (ok_word_sum T) (hr.mono (by decide)) hgd rfl T.m_word_sum T.F_word_sum.kp (b_word_sum T) (fun _ => passAt0) (@xok0 _ _ _) (ja_cons (je_call (ok_broken_figures T) (hr.mono (by decide)) hgd rfl T.m_broken_figures T.F_broken_figures.kp (b_broken_figures T) (fun _ => passAt0) (@xok0 _ _ _) (ja_cons (je_var (pv 3)) (ja_cons (je_var (pv 1)) (ja_cons (je_var (pv 2)) ja_nil)))) (ja_cons (je_call (ok_broken_figures T) (hr.mono (by decide)) hgd rfl T.m_broken_figures T.F_broken_figures.kp (b_broken_figures T) (fun _ => passAt0) (@xok0 _ _ _) (ja_cons (je_var (pv 4)) (ja_cons (je_var (pv 1)) (ja_cons (je_var (pv 2)) ja_nil)))) ja_nil))))
    (jss_cons (js_if (jw_pt (jw_or (jt_not (jt_of (je_call (ok_l_same T) (hr.mono (by decide)) hgd rfl T.m_l_same T.F_l_same.kp (b_l_same T) (fun _ => passAt0) (@xok0 _ _ _) (ja_cons (je_var (pv 10)) (ja_cons (je_var (pv 8)) ja_nil))))) (jw_or1 (jt_not (jt_of (je_call (ok_l_same T) (hr.mono (by decide)) hgd rfl T.m_l_same T.F_l_same.kp (b_l_same T) (fun _ => passAt0) (@xok0 _ _ _) (ja_cons (je_callK0 (ks := ["word", "p", "q"]) (ok_broken_carried T) (hr.mono (by decide)) hgd rfl T.m_broken_carried T.F_broken_carried.kp (kargs T.F_broken_carried (ps := ["word", "p", "q"]) (ks := ["word", "p", "q"]) (n := 0) (π := [0, 1, 2]) fun _ _ _ _ _ _ us ws h1 h2 => match us, ws, h1, h2 with | [], [_, _, _], _, _ => rfl) (by decide) (fun _ => passAt0) (@xok0 _ _ _) (jk_cons (je_var (pv 10)) (jk_cons (je_var (pv 1)) (jk_cons (je_var (pv 2)) jk_nil)))) (ja_cons (je_var (pv 9)) ja_nil)))))))) (jss_one (js_ret je_bl)) jss_nil)
    (jss_cons (js_set (i := 11) sc_l_are_sums_right.nd rfl (Or.inr rfl) (je_call (ok_l_pick T) (hr.mono (by decide)) hgd rfl T.m_l_pick T.F_l_pick.kp (b_l_pick T) (fun _ => passAt0) (@xok0 _ _ _) (ja_cons (je_var (pv 0)) (ja_cons (je_lst mok0 (ja_cons (je_call (ok_l_draw T) (hr.mono (by decide)) hgd rfl T.m_l_draw T.F_l_draw.kp (b_l_draw T) (fun _ => passAt0) (@xok0 _ _ _) (ja_cons (je_var (pv 0)) (ja_cons (je_bin (jo_add mok0) (je_var (pv 5)) je_int) ja_nil))) (ja_cons (je_var (pv 5)) (ja_cons je_int (ja_cons (je_var (pv 1)) (ja_cons (je_var (pv 2)) (ja_cons je_int ja_nil))))))) ja_nil))))
    (jss_cons (js_set (i := 9) sc_l_are_sums_right.nd rfl (Or.inl rfl) (je_call (ok_l_figures T) (hr.mono (by decide)) hgd rfl T.m_l_figures T.F_l_figures.kp (b_l_figures T) (fun _ => passAt0) (@xok0 _ _ _) (ja_cons (je_bin jo_mulI (je_var (pv 11)) (je_var (pv 4))) (ja_cons (je_var (pv 1)) (ja_cons (je_var (pv 2)) ja_nil)))))
    (jss_cons (js_if (jt_not (jt_of (je_call (ok_l_same T) (hr.mono (by decide)) hgd rfl T.m_l_same T.F_l_same.kp (b_l_same T) (fun _ => passAt0) (@xok0 _ _ _) (ja_cons (je_call (ok_broken_carried T) (hr.mono (by decide)) hgd rfl T.m_broken_carried T.F_broken_carried.kp (b_broken_carried T) (fun _ => passAt0) (@xok0 _ _ _) (ja_cons (je_callTy jc_tupleOf rfl T.n_tuple (by decide +kernel) (ja_cons (lc2 (je_lc mok0 rfl sc_l_are_sums_right.nd (ji_of (je_var (pv 7))) (blkOk_by (own := [("figure", 13)]) (N := N_l_are_sums_right) (sc := defScope s_l_are_sums_right) (by decide +kernel)) (fun _ => (jgo_name (i := 13) (by first | decide | simp) sc_l_are_sums_right.nd rfl (Or.inl rfl))) (fun _ => jts_nil) (fun _ => (je_bin jo_mulI (je_var (pv 11)) (je_var (pv 13)))) (own := [("figure", 13)]))) ja_nil)) (ja_cons (je_var (pv 1)) (ja_cons (je_var (pv 2)) ja_nil)))) (ja_cons (je_var (pv 9)) ja_nil))))) (jss_one (js_ret je_bl)) jss_nil)
    (jss_cons (js_set (i := 10) sc_l_are_sums_right.nd rfl (Or.inl rfl) (je_call (ok_times_word T) (hr.mono (by decide)) hgd rfl T.m_times_word T.F_times_word.kp (b_times_word T) (fun _ => passAt0) (@xok0 _ _ _) (ja_cons (je_call (ok_broken_figures T) (hr.mono (by decide)) hgd rfl T.m_broken_figures T.F_broken_figures.kp (b_broken_figures T) (fun _ => passAt0) (@xok0 _ _ _) (ja_cons (je_var (pv 4)) (ja_cons (je_var (pv 1)) (ja_cons (je_var (pv 2)) ja_nil)))) (ja_cons (je_var (pv 11)) ja_nil))))
    (jss_one (js_ret (je_and (je_call (ok_l_same T) (hr.mono (by decide)) hgd rfl T.m_l_same T.F_l_same.kp (b_l_same T) (fun _ => passAt0) (@xok0 _ _ _) (ja_cons (je_call (ok_broken_carried T) (hr.mono (by decide)) hgd rfl T.m_broken_carried T.F_broken_carried.kp (b_broken_carried T) (fun _ => passAt0) (@xok0 _ _ _) (ja_cons (je_var (pv 10)) (ja_cons (je_var (pv 1)) (ja_cons (je_var (pv 2)) ja_nil)))) (ja_cons (je_var (pv 9)) ja_nil))) (je_one (je_call (ok_l_same T) (hr.mono (by decide)) hgd rfl T.m_l_same T.F_l_same.kp (b_l_same T) (fun _ => passAt0) (@xok0 _ _ _) (ja_cons (je_call (ok_broken_value T) (hr.mono (by decide)) hgd rfl T.m_broken_value T.F_broken_value.kp (b_broken_value T) (fun _ => passAt0) (@xok0 _ _ _) (ja_cons (je_var (pv 10)) (ja_cons (je_var (pv 1)) (ja_cons (je_var (pv 2)) ja_nil)))) (ja_cons (je_tup (ja_cons (je_bin jo_mulI (je_var (pv 11)) (je_var (pv 4))) (ja_cons je_int ja_nil))) ja_nil)))))))))))))))))))
theorem ok_l_are_sums_right {P : Program} {w : World} {K : PySem.W.Frag} {mg : Str → Option Value} {base : Heap} (T : Top K mg) : FnG P w K mg base CX0 4 T.f_l_are_sums_right T.fd_l_are_sums_right ["bag", "p", "q"] (spOf K c_l_are_sums_right) :=
  fn_ok0 (k := 3) T.F_l_are_sums_right sc_l_are_sums_right ari_l_are_sums_right (fun cdv A outer s H E G hgd hr => d_l_are_sums_right T hgd hr) w_l_are_sums_right
theorem d_l_are_put_down_right {P : Program} {w : World} {K : PySem.W.Frag} {mg : Str → Option Value} {base : Heap} {f : Addr} {cdv : Value} {A : Around} {outer : List Env} {s : Shared} {H : Hp} {E : XK} {G : Gn} (T : Top K mg) (hgd : A.guards = some [])
    (hr : Room 3 (A.deeper (envOfC "_law_are_put_down_right" (defScope s_l_are_put_down_right) s.heap.objs.size f cdv))) :
    JSs (cxOf CX0 P w K mg base N_l_are_put_down_right "_law_are_put_down_right" (defScope s_l_are_put_down_right) f cdv A outer s H E).nox G (defBody s_l_are_put_down_right) (a_l_are_put_down_right fun p => G.H0 p = none) :=
    (jss_cons (js_set (i := 3) sc_l_are_put_down_right.nd rfl (Or.inl rfl) (je_call (ok_l_number T) (hr.mono (by decide)) hgd rfl T.m_l_number T.F_l_number.kp (b_l_number T) (fun _ => passAt0) (@xok0 _ _ _) (ja_cons (je_var (pv 0)) ja_nil)))
    (jss_cons (js_par2 (i := 4) (j := 5) rfl sc_l_are_put_down_right.nd rfl rfl (by decide) rfl rfl (ja_cons (je_call (ok_l_figures T) (hr.mono (by decide)) hgd rfl T.m_l_figures T.F_l_figures.kp (b_l_figures T) (fun _ => passAt0) (@xok0 _ _ _) (ja_cons (je_var (pv 3)) (ja_cons (je_var (pv 1)) (ja_cons (je_var (pv 2)) ja_nil)))) (ja_cons (lc2 (je_lc mok0 rfl sc_l_are_put_down_right.nd (ji_range1 rfl T.n_range (ja_cons je_int ja_nil)) (blkOk_by (own := [("turn", 10)]) (N := N_l_are_put_down_right) (sc := defScope s_l_are_put_down_right) (by decide +kernel)) (fun _ => (jgo_name (i := 10) (by first | decide | simp) sc_l_are_put_down_right.nd rfl (Or.inl rfl))) (fun _ => jts_nil) (fun _ => (je_call (ok_l_draw T) (hr.mono (by decide)) hgd rfl T.m_l_draw T.F_l_draw.kp (b_l_draw T) (fun _ => passAt0) (@xok0 _ _ _) (ja_cons (je_var (pv 0)) (ja_cons je_int ja_nil)))) (own := [("turn", 10)]))) ja_nil)) rfl)
    (jss_cons (js_set (i := 6) sc_l_are_put_down_right.nd rfl (Or.inl rfl) (je_callTy (jc_listOf mok1) rfl T.n_list (by decide +kernel) (ja_cons (je_var (pv 4)) ja_nil)))
    (jss_cons (js_for PassesOwn.never rfl (ji_range3 rfl T.n_range (ja_cons (je_bin jo_sub (je_callB jc_len rfl T.n_len (by decide +kernel) (ja_cons (je_var (pv 6)) ja_nil)) je_int) (ja_cons je_int (ja_cons (je_un ju_neg je_int) ja_nil)))) (jg_name (i := 7) sc_l_are_put_down_right.nd rfl (Or.inl rfl)) (jss_cons (js_set (i := 8) sc_l_are_put_down_right.nd rfl (Or.inl rfl) (je_callB (jc_min2 rfl) rfl T.n_min (by decide +kernel) (ja_cons (je_bin jo_div (je_ix jx_seq (je_var (pv 6)) (je_var (pv 7)) (fun _ _ => rfl)) (je_var (pv 2))) (ja_cons (je_bin jo_div (je_bin jo_sub je_int (je_ix jx_seq (je_var (pv 6)) (je_bin jo_sub (je_var (pv 7)) je_int) (fun _ _ => rfl))) (je_var (pv 1))) ja_nil))))
    (jss_cons (js_set (i := 8) sc_l_are_put_down_right.nd rfl (Or.inl rfl) (je_join (je_if (jt_cmp jo_gt (je_ix jx_seq (je_var (pv 5)) (je_bin jo_mod (je_var (pv 7)) je_int) (fun _ _ => rfl)) je_int (nomark _)) (je_var (pv 8)) (je_bin jo_div (je_var (pv 8)) je_int))))
    (jss_cons (js_setAt (by intro _ _ _ p q r; exact ps_asg p (pg_sub q r set_list)) (je_bin jo_sub (je_ix jx_seq (je_var (pv 6)) (je_var (pv 7)) (fun _ _ => rfl)) (je_bin jo_mulI (je_var (pv 2)) (je_var (pv 8)))) (je_var (pv 6)) (je_var (pv 7)))
    (jss_one (js_setAt (by intro _ _ _ p q r; exact ps_asg p (pg_sub q r set_list)) (je_bin (jo_add mok0) (je_ix jx_seq (je_var (pv 6)) (je_bin jo_sub (je_var (pv 7)) je_int) (fun _ _ => rfl)) (je_bin jo_mulI (je_var (pv 1)) (je_var (pv 8)))) (je_var (pv 6)) (je_bin jo_sub (je_var (pv 7)) je_int)))))))
    (jss_cons (js_set (i := 9) sc_l_are_put_down_right.nd rfl (Or.inl rfl) (je_callTy jc_tupleOf rfl T.n_tuple (by decide +kernel) (ja_cons (je_bin (jo_add mok0) (je_var (pv 6)) (je_bin (jo_mulB mok0) (je_lst mok0 (ja_cons je_int ja_nil)) (je_call (ok_l_draw T) (hr.mono (by decide)) hgd rfl T.m_l_draw T.F_l_draw.kp (b_l_draw T) (fun _ => passAt0) (@xok0 _ _ _) (ja_cons (je_var (pv 0)) (ja_cons je_int ja_nil))))) ja_nil)))
    (jss_one (js_retD (je_and (je_call (ok_l_same T) (hr.mono (by decide)) hgd rfl T.m_l_same T.F_l_same.kp (b_l_same T) (fun _ => passAt0) (@xok0 _ _ _) (ja_cons (je_call (ok_broken_carried T) (hr.mono (by decide)) hgd rfl T.m_broken_carried T.F_broken_carried.kp (b_broken_carried T) (fun _ => passAt0) (@xok0 _ _ _) (ja_cons (je_var (pv 9)) (ja_cons (je_var (pv 1)) (ja_cons (je_var (pv 2)) ja_nil)))) (ja_cons (je_var (pv 4)) ja_nil))) (je_one (je_call (ok_l_same T) (hr.mono (by decide)) hgd rfl T.m_l_same T.F_l_same.kp (b_l_same T) (fun _ => passAt0) (@xok0 _ _ _) (ja_cons (je_call (ok_broken_value T) (hr.mono (by decide)) hgd rfl T.m_broken_value T.F_broken_value.kp (b_broken_value T) (fun _ => passAt0) (@xok0 _ _ _) (ja_cons (je_var (pv 9)) (ja_cons (je_var (pv 1)) (ja_cons (je_var (pv 2)) ja_nil)))) (ja_cons (je_tup (ja_cons (je_var (pv 3)) (ja_cons je_int ja_nil))) ja_nil))))))))))))
theorem ok_l_are_put_down_right {P : Program} {w : World} {K : PySem.W.Frag} {mg : Str → Option Value} {base : Heap} (T : Top K mg) : FnG P w K mg base CX0 4 T.f_l_are_put_down_right T.fd_l_are_put_down_right ["bag", "p", "q"] (spOf K c_l_are_put_down_right) :=
  fn_ok0 (k := 3) T.F_l_are_put_down_right sc_l_are_put_down_right ari_l_are_put_down_right (fun cdv A outer s H E G hgd hr => d_l_are_put_down_right T hgd hr) w_l_are_put_down_right
theorem d_law {P : Program} {w : World} {K : PySem.W.Frag} {mg : Str → Option Value} {base : Heap} {f : Addr} {cdv : Value} {A : Around} {outer : List Env} {s : Shared} {H : Hp} {E : XK} {G : Gn} (T : Top K mg) (hgd : A.guards = some [])
    (hr : Room 4 (A.deeper (envOfC "law" (defScope s_law) s.heap.objs.size f cdv))) :
    JSs (cxOf CX0 P w K mg base N_law "law" (defScope s_law) f cdv A outer s H E).nox G (defBody s_law) (a_law fun p => G.H0 p = none) :=
    (jss_cons (js_set (i := 1) sc_law.nd rfl (Or.inl rfl) (je_call (ok_l_own_bag T) (hr.mono (by decide)) hgd rfl T.m_l_own_bag T.F_l_own_bag.kp (b_l_own_bag T) (fun _ => passAt0) (@xok0 _ _ _) (ja_cons (je_var (pv 0)) ja_nil)))
    (jss_cons (js_set (i := 2) sc_law.nd rfl (Or.inl rfl) (je_call0 (ok_l_pairs T) (hr.mono (by decide)) hgd rfl T.m_l_pairs T.F_l_pairs.kp (b_l_pairs T) (fun _ => passAt0) (@xok0 _ _ _)))
    (jss_cons (js_par2 (i := 3) (j := 4) rfl sc_law.nd rfl rfl (by decide) rfl rfl (ja_cons (je_call (ok_l_pick T) (hr.mono (by decide)) hgd rfl T.m_l_pick T.F_l_pick.kp (b_l_pick T) (fun _ => passAt0) (@xok0 _ _ _) (ja_cons (je_var (pv 1)) (ja_cons (je_var (pv 2)) ja_nil))) (ja_cons (je_call (ok_l_pick T) (hr.mono (by decide)) hgd rfl T.m_l_pick T.F_l_pick.kp (b_l_pick T) (fun _ => passAt0) (@xok0 _ _ _) (ja_cons (je_var (pv 1)) (ja_cons (je_var (pv 2)) ja_nil))) ja_nil)) rfl)
    (jss_cons (js_asg (je_var (pv 3)) (jg_tup rfl (jgs1 (jg_name (i := 5) sc_law.nd rfl (Or.inl rfl)) (jgs1 (jg_name (i := 6) sc_law.nd rfl (Or.inl rfl)) jgs0))))
    (jss_cons (js_if (jw_pt (jw_or (jt_not (jt_of (je_call (ok_l_are_numbers_right T) (hr.mono (by decide)) hgd rfl T.m_l_are_numbers_right T.F_l_are_numbers_right.kp (b_l_are_numbers_right T) (fun _ => passAt0) (@xok0 _ _ _) (ja_cons (je_var (pv 1)) (ja_cons (je_var (pv 5)) (ja_cons (je_var (pv 6)) (ja_cons (je_var (pv 4)) ja_nil))))))) (jw_or1 (jt_not (jt_of (je_call (ok_l_are_sums_right T) (hr.mono (by decide)) hgd rfl T.m_l_are_sums_right T.F_l_are_sums_right.kp (b_l_are_sums_right T) (fun _ => passAt0) (@xok0 _ _ _) (ja_cons (je_var (pv 1)) (ja_cons (je_var (pv 5)) (ja_cons (je_var (pv 6)) ja_nil))))))))) (jss_one (js_ret je_bl)) jss_nil)
    (jss_cons (js_if (jw_pt (jw_or (jt_not (jt_of (je_call (ok_l_are_put_down_right T) (hr.mono (by decide)) hgd rfl T.m_l_are_put_down_right T.F_l_are_put_down_right.kp (b_l_are_put_down_right T) (fun _ => passAt0) (@xok0 _ _ _) (ja_cons (je_var (pv 1)) (ja_cons (je_var (pv 5)) (ja_cons (je_var (pv 6)) ja_nil)))))) (jw_or1 (jt_not (jt_of (je_call (ok_l_are_short_judged T) (hr.mono (by decide)) hgd rfl T.m_l_are_short_judged T.F_l_are_short_judged.kp (b_l_are_short_judged T) (fun _ => passAt0) (@xok0 _ _ _) (ja_cons (je_var (pv 1)) (ja_cons (je_var (pv 5)) (ja_cons (je_var (pv 6)) ja_nil))))))))) (jss_one (js_ret je_bl)) jss_nil)
    (jss_cons (js_asg (je_var (pv 4)) (jg_tup rfl (jgs1 (jg_name (i := 5) sc_law.nd rfl (Or.inl rfl)) (jgs1 (jg_name (i := 6) sc_law.nd rfl (Or.inl rfl)) jgs0))))
    (jss_cons (js_if (jw_pt (jw_or (jt_not (jt_of (je_call (ok_l_are_numbers_right T) (hr.mono (by decide)) hgd rfl T.m_l_are_numbers_right T.F_l_are_numbers_right.kp (b_l_are_numbers_right T) (fun _ => passAt0) (@xok0 _ _ _) (ja_cons (je_var (pv 1)) (ja_cons (je_var (pv 5)) (ja_cons (je_var (pv 6)) (ja_cons (je_var (pv 3)) ja_nil))))))) (jw_or1 (jt_not (jt_of (je_call (ok_l_are_products_right T) (hr.mono (by decide)) hgd rfl T.m_l_are_products_right T.F_l_are_products_right.kp (b_l_are_products_right T) (fun _ => passAt0) (@xok0 _ _ _) (ja_cons (je_var (pv 1)) (ja_cons (je_var (pv 5)) (ja_cons (je_var (pv 6)) ja_nil))))))))) (jss_one (js_ret je_bl)) jss_nil)
    (jss_cons (js_asg (je_call (ok_l_pick T) (hr.mono (by decide)) hgd rfl T.m_l_pick T.F_l_pick.kp (b_l_pick T) (fun _ => passAt0) (@xok0 _ _ _) (ja_cons (je_var (pv 1)) (ja_cons (je_lst mok0 (ja_cons (je_var (pv 3)) (ja_cons (je_var (pv 4)) ja_nil))) ja_nil))) (jg_tup rfl (jgs1 (jg_name (i := 5) sc_law.nd rfl (Or.inl rfl)) (jgs1 (jg_name (i := 6) sc_law.nd rfl (Or.inl rfl)) jgs0))))
    (jss_one (js_ret (je_and (je_call (ok_l_are_any_right T) (hr.mono (by decide)) hgd rfl T.m_l_are_any_right T.F_l_are_any_right.kp (b_l_are_any_right T) (fun _ => passAt0) (@xok0 _ _ _) (ja_cons (je_var (pv 1)) (ja_cons (je_var (pv 5)) (ja_cons (je_var (pv 6)) ja_nil)))) (je_one (je_call (ok_l_are_long_judged T) (hr.mono (by decide)) hgd rfl T.m_l_are_long_judged T.F_l_are_long_judged.kp (b_l_are_long_judged T) (fun _ => passAt0) (@xok0 _ _ _) (ja_cons (je_var (pv 1)) (ja_cons (je_var (pv 5)) (ja_cons (je_var (pv 6)) ja_nil)))))))))))))))))
theorem ok_law {P : Program} {w : World} {K : PySem.W.Frag} {mg : Str → Option Value} {base : Heap} (T : Top K mg) : FnG P w K mg base CX0 5 T.f_law T.fd_law ["script"] (spOf K c_law) :=
  fn_ok0 (k := 4) T.F_law sc_law ari_law (fun cdv A outer s H E G hgd hr => d_law T hgd hr) w_law
theorem all_mk {l : PySem.W.OpenLaw} {w : World} {K : PySem.W.Frag} {h : Heap} {mg : Str → Option Value} {fa : Addr} (X : K.In h) (G : h.Ns mainGlobals mg) (hfa : mg "law" = some (.ref fa))
    {f0 : Addr} {od0 an0 : Option Addr} {sl0 : Array (Option Value)} {oc0 kV0 dc0 pm0 cd0 ct0 : Value} {f1 : Addr} {od1 an1 : Option Addr} {sl1 : Array (Option Value)} {oc1 kV1 dc1 pm1 cd1 ct1 : Value} {f2 : Addr} {od2 an2 : Option Addr} {sl2 : Array (Option Value)} {oc2 kV2 dc2 pm2 cd2 ct2 : Value} {f3 : Addr} {od3 an3 : Option Addr} {sl3 : Array (Option Value)} {oc3 kV3 dc3 pm3 cd3 ct3 : Value} {f4 : Addr} {od4 an4 : Option Addr} {sl4 : Array (Option Value)} {oc4 kV4 dc4 pm4 cd4 ct4 : Value} {f5 : Addr} {od5 an5 : Option Addr} {sl5 : Array (Option Value)} {oc5 kV5 dc5 pm5 cd5 ct5 : Value} {f6 : Addr} {od6 an6 : Option Addr} {sl6 : Array (Option Value)} {oc6 kV6 dc6 pm6 cd6 ct6 : Value} {f7 : Addr} {od7 an7 : Option Addr} {sl7 : Array (Option Value)} {oc7 kV7 dc7 pm7 cd7 ct7 : Value} {f8 : Addr} {od8 an8 : Option Addr} {sl8 : Array (Option Value)} {oc8 kV8 dc8 pm8 cd8 ct8 : Value} {f9 : Addr} {od9 an9 : Option Addr} {sl9 : Array (Option Value)} {oc9 kV9 dc9 pm9 cd9 ct9 : Value} {f10 : Addr} {od10 an10 : Option Addr} {sl10 : Array (Option Value)} {oc10 kV10 dc10 pm10 cd10 ct10 : Value} {f11 : Addr} {od11 an11 : Option Addr} {sl11 : Array (Option Value)} {oc11 kV11 dc11 pm11 cd11 ct11 : Value} {f12 : Addr} {od12 an12 : Option Addr} {sl12 : Array (Option Value)} {oc12 kV12 dc12 pm12 cd12 ct12 : Value} {f13 : Addr} {od13 an13 : Option Addr} {sl13 : Array (Option Value)} {oc13 kV13 dc13 pm13 cd13 ct13 : Value} {f14 : Addr} {od14 an14 : Option Addr} {sl14 : Array (Option Value)} {oc14 kV14 dc14 pm14 cd14 ct14 : Value} {f15 : Addr} {od15 an15 : Option Addr} {sl15 : Array (Option Value)} {oc15 kV15 dc15 pm15 cd15 ct15 : Value} {f16 : Addr} {od16 an16 : Option Addr} {sl16 : Array (Option Value)} {oc16 kV16 dc16 pm16 cd16 ct16 : Value} {f17 : Addr} {od17 an17 : Option Addr} {sl17 : Array (Option Value)} {oc17 kV17 dc17 pm17 cd17 ct17 : Value} {f18 : Addr} {od18 an18 : Option Addr} {sl18 : Array (Option Value)} {oc18 kV18 dc18 pm18 cd18 ct18 : Value} {f19 : Addr} {od19 an19 : Option Addr} {sl19 : Array (Option Value)} {oc19 kV19 dc19 pm19 cd19 ct19 : Value} {f20 : Addr} {od20 an20 : Option Addr} {sl20 : Array (Option Value)} {oc20 kV20 dc20 pm20 cd20 ct20 : Value} {f21 : Addr} {od21 an21 : Option Addr} {sl21 : Array (Option Value)} {oc21 kV21 dc21 pm21 cd21 ct21 : Value} {f22 : Addr} {od22 an22 : Option Addr} {sl22 : Array (Option Value)} {oc22 kV22 dc22 pm22 cd22 ct22 : Value} {f23 : Addr} {od23 an23 : Option Addr} {sl23 : Array (Option Value)} {oc23 kV23 dc23 pm23 cd23 ct23 : Value} {f24 : Addr} {od24 an24 : Option Addr} {sl24 : Array (Option Value)} {oc24 kV24 dc24 pm24 cd24 ct24 : Value} {f25 : Addr} {od25 an25 : Option Addr} {sl25 : Array (Option Value)} {oc25 kV25 dc25 pm25 cd25 ct25 : Value} {f26 : Addr} {od26 an26 : Option Addr} {sl26 : Array (Option Value)} {oc26 kV26 dc26 pm26 cd26 ct26 : Value} {f27 : Addr} {od27 an27 : Option Addr} {sl27 : Array (Option Value)} {oc27 kV27 dc27 pm27 cd27 ct27 : Value} {t_MAX_STRETCH : Tok} 
    (a0 : PySem.W.nsIn K mainGlobals "is_number" = some (some (.ref f0))) (l0 : K.lookup f0 = some ⟨oc0, od0, .func (PySem.W.fnOf "is_number" "is_number" (defArgs s_is_number) (defBody s_is_number) (defScope s_is_number) .none kV0 dc0 pm0 an0 cd0 ct0), sl0⟩) (c0 : PySem.W.codeIn K cd0 "is_number" = true) (k0 : PySem.W.keepIn K (.ref f0) = true)
    (a1 : PySem.W.nsIn K mainGlobals "trimmed" = some (some (.ref f1))) (l1 : K.lookup f1 = some ⟨oc1, od1, .func (PySem.W.fnOf "trimmed" "trimmed" (defArgs s_trimmed) (defBody s_trimmed) (defScope s_trimmed) .none kV1 dc1 pm1 an1 cd1 ct1), sl1⟩) (c1 : PySem.W.codeIn K cd1 "trimmed" = true) (k1 : PySem.W.keepIn K (.ref f1) = true)
    (a2 : PySem.W.nsIn K mainGlobals "word_sum" = some (some (.ref f2))) (l2 : K.lookup f2 = some ⟨oc2, od2, .func (PySem.W.fnOf "word_sum" "word_sum" (defArgs s_word_sum) (defBody s_word_sum) (defScope s_word_sum) .none kV2 dc2 pm2 an2 cd2 ct2), sl2⟩) (c2 : PySem.W.codeIn K cd2 "word_sum" = true) (k2 : PySem.W.keepIn K (.ref f2) = true)
    (a3 : PySem.W.nsIn K mainGlobals "times_word" = some (some (.ref f3))) (l3 : K.lookup f3 = some ⟨oc3, od3, .func (PySem.W.fnOf "times_word" "times_word" (defArgs s_times_word) (defBody s_times_word) (defScope s_times_word) .none kV3 dc3 pm3 an3 cd3 ct3), sl3⟩) (c3 : PySem.W.codeIn K cd3 "times_word" = true) (k3 : PySem.W.keepIn K (.ref f3) = true)
    (a4 : PySem.W.nsIn K mainGlobals "broken_figures" = some (some (.ref f4))) (l4 : K.lookup f4 = some ⟨oc4, od4, .func (PySem.W.fnOf "broken_figures" "broken_figures" (defArgs s_broken_figures) (defBody s_broken_figures) (defScope s_broken_figures) .none kV4 dc4 pm4 an4 cd4 ct4), sl4⟩) (c4 : PySem.W.codeIn K cd4 "broken_figures" = true) (k4 : PySem.W.keepIn K (.ref f4) = true)
    (a5 : PySem.W.nsIn K mainGlobals "broken_value" = some (some (.ref f5))) (l5 : K.lookup f5 = some ⟨oc5, od5, .func (PySem.W.fnOf "broken_value" "broken_value" (defArgs s_broken_value) (defBody s_broken_value) (defScope s_broken_value) .none kV5 dc5 pm5 an5 cd5 ct5), sl5⟩) (c5 : PySem.W.codeIn K cd5 "broken_value" = true) (k5 : PySem.W.keepIn K (.ref f5) = true)
    (a6 : PySem.W.nsIn K mainGlobals "broken_carried" = some (some (.ref f6))) (l6 : K.lookup f6 = some ⟨oc6, od6, .func (PySem.W.fnOf "broken_carried" "broken_carried" (defArgs s_broken_carried) (defBody s_broken_carried) (defScope s_broken_carried) .none kV6 dc6 pm6 an6 cd6 ct6), sl6⟩) (c6 : PySem.W.codeIn K cd6 "broken_carried" = true) (k6 : PySem.W.keepIn K (.ref f6) = true)
    (a7 : PySem.W.nsIn K mainGlobals "broken_error" = some (some (.ref f7))) (l7 : K.lookup f7 = some ⟨oc7, od7, .func (PySem.W.fnOf "broken_error" "broken_error" (defArgs s_broken_error) (defBody s_broken_error) (defScope s_broken_error) .none kV7 dc7 pm7 an7 cd7 ct7), sl7⟩) (c7 : PySem.W.codeIn K cd7 "broken_error" = true) (k7 : PySem.W.keepIn K (.ref f7) = true)
    (a8 : PySem.W.nsIn K mainGlobals "_law_own_bag" = some (some (.ref f8))) (l8 : K.lookup f8 = some ⟨oc8, od8, .func (PySem.W.fnOf "_law_own_bag" "_law_own_bag" (defArgs s_l_own_bag) (defBody s_l_own_bag) (defScope s_l_own_bag) .none kV8 dc8 pm8 an8 cd8 ct8), sl8⟩) (c8 : PySem.W.codeIn K cd8 "_law_own_bag" = true) (k8 : PySem.W.keepIn K (.ref f8) = true)
    (a9 : PySem.W.nsIn K mainGlobals "_law_draw" = some (some (.ref f9))) (l9 : K.lookup f9 = some ⟨oc9, od9, .func (PySem.W.fnOf "_law_draw" "_law_draw" (defArgs s_l_draw) (defBody s_l_draw) (defScope s_l_draw) .none kV9 dc9 pm9 an9 cd9 ct9), sl9⟩) (c9 : PySem.W.codeIn K cd9 "_law_draw" = true) (k9 : PySem.W.keepIn K (.ref f9) = true)
    (a10 : PySem.W.nsIn K mainGlobals "_law_pick" = some (some (.ref f10))) (l10 : K.lookup f10 = some ⟨oc10, od10, .func (PySem.W.fnOf "_law_pick" "_law_pick" (defArgs s_l_pick) (defBody s_l_pick) (defScope s_l_pick) .none kV10 dc10 pm10 an10 cd10 ct10), sl10⟩) (c10 : PySem.W.codeIn K cd10 "_law_pick" = true) (k10 : PySem.W.keepIn K (.ref f10) = true)
    (a11 : PySem.W.nsIn K mainGlobals "_law_great" = some (some (.ref f11))) (l11 : K.lookup f11 = some ⟨oc11, od11, .func (PySem.W.fnOf "_law_great" "_law_great" (defArgs s_l_great) (defBody s_l_great) (defScope s_l_great) .none kV11 dc11 pm11 an11 cd11 ct11), sl11⟩) (c11 : PySem.W.codeIn K cd11 "_law_great" = true) (k11 : PySem.W.keepIn K (.ref f11) = true)
    (a12 : PySem.W.nsIn K mainGlobals "_law_same" = some (some (.ref f12))) (l12 : K.lookup f12 = some ⟨oc12, od12, .func (PySem.W.fnOf "_law_same" "_law_same" (defArgs s_l_same) (defBody s_l_same) (defScope s_l_same) .none kV12 dc12 pm12 an12 cd12 ct12), sl12⟩) (c12 : PySem.W.codeIn K cd12 "_law_same" = true) (k12 : PySem.W.keepIn K (.ref f12) = true)
    (a13 : PySem.W.nsIn K mainGlobals "_law_pairs" = some (some (.ref f13))) (l13 : K.lookup f13 = some ⟨oc13, od13, .func (PySem.W.fnOf "_law_pairs" "_law_pairs" (defArgs s_l_pairs) (defBody s_l_pairs) (defScope s_l_pairs) .none kV13 dc13 pm13 an13 cd13 ct13), sl13⟩) (c13 : PySem.W.codeIn K cd13 "_law_pairs" = true) (k13 : PySem.W.keepIn K (.ref f13) = true)
    (a14 : PySem.W.nsIn K mainGlobals "_law_number" = some (some (.ref f14))) (l14 : K.lookup f14 = some ⟨oc14, od14, .func (PySem.W.fnOf "_law_number" "_law_number" (defArgs s_l_number) (defBody s_l_number) (defScope s_l_number) .none kV14 dc14 pm14 an14 cd14 ct14), sl14⟩) (c14 : PySem.W.codeIn K cd14 "_law_number" = true) (k14 : PySem.W.keepIn K (.ref f14) = true)
    (a15 : PySem.W.nsIn K mainGlobals "_law_figures" = some (some (.ref f15))) (l15 : K.lookup f15 = some ⟨oc15, od15, .func (PySem.W.fnOf "_law_figures" "_law_figures" (defArgs s_l_figures) (defBody s_l_figures) (defScope s_l_figures) .none kV15 dc15 pm15 an15 cd15 ct15), sl15⟩) (c15 : PySem.W.codeIn K cd15 "_law_figures" = true) (k15 : PySem.W.keepIn K (.ref f15) = true)
    (a16 : PySem.W.nsIn K mainGlobals "_law_carried" = some (some (.ref f16))) (l16 : K.lookup f16 = some ⟨oc16, od16, .func (PySem.W.fnOf "_law_carried" "_law_carried" (defArgs s_l_carried) (defBody s_l_carried) (defScope s_l_carried) .none kV16 dc16 pm16 an16 cd16 ct16), sl16⟩) (c16 : PySem.W.codeIn K cd16 "_law_carried" = true) (k16 : PySem.W.keepIn K (.ref f16) = true)
    (a17 : PySem.W.nsIn K mainGlobals "_law_value" = some (some (.ref f17))) (l17 : K.lookup f17 = some ⟨oc17, od17, .func (PySem.W.fnOf "_law_value" "_law_value" (defArgs s_l_value) (defBody s_l_value) (defScope s_l_value) .none kV17 dc17 pm17 an17 cd17 ct17), sl17⟩) (c17 : PySem.W.codeIn K cd17 "_law_value" = true) (k17 : PySem.W.keepIn K (.ref f17) = true)
    (a18 : PySem.W.nsIn K mainGlobals "_law_judged" = some (some (.ref f18))) (l18 : K.lookup f18 = some ⟨oc18, od18, .func (PySem.W.fnOf "_law_judged" "_law_judged" (defArgs s_l_judged) (defBody s_l_judged) (defScope s_l_judged) .none kV18 dc18 pm18 an18 cd18 ct18), sl18⟩) (c18 : PySem.W.codeIn K cd18 "_law_judged" = true) (k18 : PySem.W.keepIn K (.ref f18) = true)
    (a19 : PySem.W.nsIn K mainGlobals "_law_grown" = some (some (.ref f19))) (l19 : K.lookup f19 = some ⟨oc19, od19, .func (PySem.W.fnOf "_law_grown" "_law_grown" (defArgs s_l_grown) (defBody s_l_grown) (defScope s_l_grown) .none kV19 dc19 pm19 an19 cd19 ct19), sl19⟩) (c19 : PySem.W.codeIn K cd19 "_law_grown" = true) (k19 : PySem.W.keepIn K (.ref f19) = true)
    (a20 : PySem.W.nsIn K mainGlobals "_law_are_numbers_right" = some (some (.ref f20))) (l20 : K.lookup f20 = some ⟨oc20, od20, .func (PySem.W.fnOf "_law_are_numbers_right" "_law_are_numbers_right" (defArgs s_l_are_numbers_right) (defBody s_l_are_numbers_right) (defScope s_l_are_numbers_right) .none kV20 dc20 pm20 an20 cd20 ct20), sl20⟩) (c20 : PySem.W.codeIn K cd20 "_law_are_numbers_right" = true) (k20 : PySem.W.keepIn K (.ref f20) = true)
    (a21 : PySem.W.nsIn K mainGlobals "_law_are_sums_right" = some (some (.ref f21))) (l21 : K.lookup f21 = some ⟨oc21, od21, .func (PySem.W.fnOf "_law_are_sums_right" "_law_are_sums_right" (defArgs s_l_are_sums_right) (defBody s_l_are_sums_right) (defScope s_l_are_sums_right) .none kV21 dc21 pm21 an21 cd21 ct21), sl21⟩) (c21 : PySem.W.codeIn K cd21 "_law_are_sums_right" = true) (k21 : PySem.W.keepIn K (.ref f21) = true)
    (a22 : PySem.W.nsIn K mainGlobals "_law_are_products_right" = some (some (.ref f22))) (l22 : K.lookup f22 = some ⟨oc22, od22, .func (PySem.W.fnOf "_law_are_products_right" "_law_are_products_right" (defArgs s_l_are_products_right) (defBody s_l_are_products_right) (defScope s_l_are_products_right) .none kV22 dc22 pm22 an22 cd22 ct22), sl22⟩) (c22 : PySem.W.codeIn K cd22 "_law_are_products_right" = true) (k22 : PySem.W.keepIn K (.ref f22) = true)
    (a23 : PySem.W.nsIn K mainGlobals "_law_are_put_down_right" = some (some (.ref f23))) (l23 : K.lookup f23 = some ⟨oc23, od23, .func (PySem.W.fnOf "_law_are_put_down_right" "_law_are_put_down_right" (defArgs s_l_are_put_down_right) (defBody s_l_are_put_down_right) (defScope s_l_are_put_down_right) .none kV23 dc23 pm23 an23 cd23 ct23), sl23⟩) (c23 : PySem.W.codeIn K cd23 "_law_are_put_down_right" = true) (k23 : PySem.W.keepIn K (.ref f23) = true)
    (a24 : PySem.W.nsIn K mainGlobals "_law_are_any_right" = some (some (.ref f24))) (l24 : K.lookup f24 = some ⟨oc24, od24, .func (PySem.W.fnOf "_law_are_any_right" "_law_are_any_right" (defArgs s_l_are_any_right) (defBody s_l_are_any_right) (defScope s_l_are_any_right) .none kV24 dc24 pm24 an24 cd24 ct24), sl24⟩) (c24 : PySem.W.codeIn K cd24 "_law_are_any_right" = true) (k24 : PySem.W.keepIn K (.ref f24) = true)
    (a25 : PySem.W.nsIn K mainGlobals "_law_are_long_judged" = some (some (.ref f25))) (l25 : K.lookup f25 = some ⟨oc25, od25, .func (PySem.W.fnOf "_law_are_long_judged" "_law_are_long_judged" (defArgs s_l_are_long_judged) (defBody s_l_are_long_judged) (defScope s_l_are_long_judged) .none kV25 dc25 pm25 an25 cd25 ct25), sl25⟩) (c25 : PySem.W.codeIn K cd25 "_law_are_long_judged" = true) (k25 : PySem.W.keepIn K (.ref f25) = true)
    (a26 : PySem.W.nsIn K mainGlobals "_law_are_short_judged" = some (some (.ref f26))) (l26 : K.lookup f26 = some ⟨oc26, od26, .func (PySem.W.fnOf "_law_are_short_judged" "_law_are_short_judged" (defArgs s_l_are_short_judged) (defBody s_l_are_short_judged) (defScope s_l_are_short_judged) .none kV26 dc26 pm26 an26 cd26 ct26), sl26⟩) (c26 : PySem.W.codeIn K cd26 "_law_are_short_judged" = true) (k26 : PySem.W.keepIn K (.ref f26) = true)
    (a27 : PySem.W.nsIn K mainGlobals "law" = some (some (.ref f27))) (l27 : K.lookup f27 = some ⟨oc27, od27, .func (PySem.W.fnOf "law" "law" (defArgs s_law) (defBody s_law) (defScope s_law) .none kV27 dc27 pm27 an27 cd27 ct27), sl27⟩) (c27 : PySem.W.codeIn K cd27 "law" = true) (k27 : PySem.W.keepIn K (.ref f27) = true)
    (n_abs : PySem.W.nsIn K mainGlobals "abs" = some none)
    (n_all : PySem.W.nsIn K mainGlobals "all" = some none)
    (n_any : PySem.W.nsIn K mainGlobals "any" = some none)
    (n_bool : PySem.W.nsIn K mainGlobals "bool" = some none)
    (n_enumerate : PySem.W.nsIn K mainGlobals "enumerate" = some none)
    (n_int : PySem.W.nsIn K mainGlobals "int" = some none)
    (n_isinstance : PySem.W.nsIn K mainGlobals "isinstance" = some none)
    (n_len : PySem.W.nsIn K mainGlobals "len" = some none)
    (n_list : PySem.W.nsIn K mainGlobals "list" = some none)
    (n_max : PySem.W.nsIn K mainGlobals "max" = some none)
    (n_min : PySem.W.nsIn K mainGlobals "min" = some none)
    (n_range : PySem.W.nsIn K mainGlobals "range" = some none)
    (n_repr : PySem.W.nsIn K mainGlobals "repr" = some none)
    (n_reversed : PySem.W.nsIn K mainGlobals "reversed" = some none)
    (n_str : PySem.W.nsIn K mainGlobals "str" = some none)
    (n_tuple : PySem.W.nsIn K mainGlobals "tuple" = some none)
    (n_zip : PySem.W.nsIn K mainGlobals "zip" = some none)
    (m_MAX_STRETCH : PySem.W.nsIn K mainGlobals "MAX_STRETCH" = some (some (.int 1000 t_MAX_STRETCH)))
    (dgk : PySem.W.nsIn K cStatics "sys.int_max_str_digits" = some none)
    (i_gcd : PySem.W.nsIn K mainGlobals "gcd" = some (some (.builtin "math.gcd"))) :
    ∃ fd : FuncData, (∀ (s : Shared) (v : Value), BindsTo s fd ⟨[v], []⟩ [("script", v)]) ∧ ∀ base : Heap, K.In base → base.Ns mainGlobals mg → FnG l.prog w K mg base CX0 5 fa fd ["script"] (spOf K c_law) := by
  have e := (PySem.W.mg_of X G a27).symm.trans hfa
  cases e
  let T : Top K mg := {
    dg := dgk,
    f_is_number := f0, fd_is_number := _, F_is_number := fun_mk (st := s_is_number) l0 c0 k0, m_is_number := PySem.W.mg_of X G a0,
    f_trimmed := f1, fd_trimmed := _, F_trimmed := fun_mk (st := s_trimmed) l1 c1 k1, m_trimmed := PySem.W.mg_of X G a1,
    f_word_sum := f2, fd_word_sum := _, F_word_sum := fun_mk (st := s_word_sum) l2 c2 k2, m_word_sum := PySem.W.mg_of X G a2,
    f_times_word := f3, fd_times_word := _, F_times_word := fun_mk (st := s_times_word) l3 c3 k3, m_times_word := PySem.W.mg_of X G a3,
    f_broken_figures := f4, fd_broken_figures := _, F_broken_figures := fun_mk (st := s_broken_figures) l4 c4 k4, m_broken_figures := PySem.W.mg_of X G a4,
    f_broken_value := f5, fd_broken_value := _, F_broken_value := fun_mk (st := s_broken_value) l5 c5 k5, m_broken_value := PySem.W.mg_of X G a5,
    f_broken_carried := f6, fd_broken_carried := _, F_broken_carried := fun_mk (st := s_broken_carried) l6 c6 k6, m_broken_carried := PySem.W.mg_of X G a6,
    f_broken_error := f7, fd_broken_error := _, F_broken_error := fun_mk (st := s_broken_error) l7 c7 k7, m_broken_error := PySem.W.mg_of X G a7,
    f_l_own_bag := f8, fd_l_own_bag := _, F_l_own_bag := fun_mk (st := s_l_own_bag) l8 c8 k8, m_l_own_bag := PySem.W.mg_of X G a8,
    f_l_draw := f9, fd_l_draw := _, F_l_draw := fun_mk (st := s_l_draw) l9 c9 k9, m_l_draw := PySem.W.mg_of X G a9,
    f_l_pick := f10, fd_l_pick := _, F_l_pick := fun_mk (st := s_l_pick) l10 c10 k10, m_l_pick := PySem.W.mg_of X G a10,
    f_l_great := f11, fd_l_great := _, F_l_great := fun_mk (st := s_l_great) l11 c11 k11, m_l_great := PySem.W.mg_of X G a11,
    f_l_same := f12, fd_l_same := _, F_l_same := fun_mk (st := s_l_same) l12 c12 k12, m_l_same := PySem.W.mg_of X G a12,
    f_l_pairs := f13, fd_l_pairs := _, F_l_pairs := fun_mk (st := s_l_pairs) l13 c13 k13, m_l_pairs := PySem.W.mg_of X G a13,
    f_l_number := f14, fd_l_number := _, F_l_number := fun_mk (st := s_l_number) l14 c14 k14, m_l_number := PySem.W.mg_of X G a14,
    f_l_figures := f15, fd_l_figures := _, F_l_figures := fun_mk (st := s_l_figures) l15 c15 k15, m_l_figures := PySem.W.mg_of X G a15,
    f_l_carried := f16, fd_l_carried := _, F_l_carried := fun_mk (st := s_l_carried) l16 c16 k16, m_l_carried := PySem.W.mg_of X G a16,
    f_l_value := f17, fd_l_value := _, F_l_value := fun_mk (st := s_l_value) l17 c17 k17, m_l_value := PySem.W.mg_of X G a17,
    f_l_judged := f18, fd_l_judged := _, F_l_judged := fun_mk (st := s_l_judged) l18 c18 k18, m_l_judged := PySem.W.mg_of X G a18,
    f_l_grown := f19, fd_l_grown := _, F_l_grown := fun_mk (st := s_l_grown) l19 c19 k19, m_l_grown := PySem.W.mg_of X G a19,
    f_l_are_numbers_right := f20, fd_l_are_numbers_right := _, F_l_are_numbers_right := fun_mk (st := s_l_are_numbers_right) l20 c20 k20, m_l_are_numbers_right := PySem.W.mg_of X G a20,
    f_l_are_sums_right := f21, fd_l_are_sums_right := _, F_l_are_sums_right := fun_mk (st := s_l_are_sums_right) l21 c21 k21, m_l_are_sums_right := PySem.W.mg_of X G a21,
    f_l_are_products_right := f22, fd_l_are_products_right := _, F_l_are_products_right := fun_mk (st := s_l_are_products_right) l22 c22 k22, m_l_are_products_right := PySem.W.mg_of X G a22,
    f_l_are_put_down_right := f23, fd_l_are_put_down_right := _, F_l_are_put_down_right := fun_mk (st := s_l_are_put_down_right) l23 c23 k23, m_l_are_put_down_right := PySem.W.mg_of X G a23,
    f_l_are_any_right := f24, fd_l_are_any_right := _, F_l_are_any_right := fun_mk (st := s_l_are_any_right) l24 c24 k24, m_l_are_any_right := PySem.W.mg_of X G a24,
    f_l_are_long_judged := f25, fd_l_are_long_judged := _, F_l_are_long_judged := fun_mk (st := s_l_are_long_judged) l25 c25 k25, m_l_are_long_judged := PySem.W.mg_of X G a25,
    f_l_are_short_judged := f26, fd_l_are_short_judged := _, F_l_are_short_judged := fun_mk (st := s_l_are_short_judged) l26 c26 k26, m_l_are_short_judged := PySem.W.mg_of X G a26,
    f_law := fa, fd_law := _, F_law := fun_mk (st := s_law) l27 c27 k27, m_law := PySem.W.mg_of X G a27,
    t_MAX_STRETCH := t_MAX_STRETCH, m_MAX_STRETCH := PySem.W.mg_of X G m_MAX_STRETCH,
    i_gcd := PySem.W.mg_of X G i_gcd,
    n_abs := PySem.W.mg_none_of X G n_abs,
    n_all := PySem.W.mg_none_of X G n_all,
    n_any := PySem.W.mg_none_of X G n_any,
    n_bool := PySem.W.mg_none_of X G n_bool,
    n_enumerate := PySem.W.mg_none_of X G n_enumerate,
    n_int := PySem.W.mg_none_of X G n_int,
    n_isinstance := PySem.W.mg_none_of X G n_isinstance,
    n_len := PySem.W.mg_none_of X G n_len,
    n_list := PySem.W.mg_none_of X G n_list,
    n_max := PySem.W.mg_none_of X G n_max,
    n_min := PySem.W.mg_none_of X G n_min,
    n_range := PySem.W.mg_none_of X G n_range,
    n_repr := PySem.W.mg_none_of X G n_repr,
    n_reversed := PySem.W.mg_none_of X G n_reversed,
    n_str := PySem.W.mg_none_of X G n_str,
    n_tuple := PySem.W.mg_none_of X G n_tuple,
    n_zip := PySem.W.mg_none_of X G n_zip }
  exact ⟨T.fd_law, fun s v => .of_eq rfl, fun base _ _ => ok_law T⟩
end KK
open PySem PySem.W PyProof.Rows in
set_option maxRecDepth 100000 in
set_option maxHeartbeats 0 in
theorem PySem.Challenge.cw_manybases_k82_whole_main_broken_words_holds : PySem.Challenge.rw_manybases_k82_whole_main_broken_words.Holds := by
  w_on; o_law; k_head; (case hw => w_witness2)
  k_fill
  refine Z.walk (l := PySem.Challenge.rw_manybases_k82_whole_main_broken_words) (n := 63) (k := 5) (x := "script") rfl rfl (fun w h Y => PySem.W.kIn_of Y) ⟨rfl, by decide +kernel, by decide +kernel⟩ (by decide) ?F
  case F =>
    intro w mg fa h KX G hmg
    refine' KK.all_mk KX G hmg ?a0 ?l0 ?c0 ?k0 ?a1 ?l1 ?c1 ?k1 ?a2 ?l2 ?c2 ?k2 ?a3 ?l3 ?c3 ?k3 ?a4 ?l4 ?c4 ?k4 ?a5 ?l5 ?c5 ?k5 ?a6 ?l6 ?c6 ?k6 ?a7 ?l7 ?c7 ?k7 ?a8 ?l8 ?c8 ?k8 ?a9 ?l9 ?c9 ?k9 ?a10 ?l10 ?c10 ?k10 ?a11 ?l11 ?c11 ?k11 ?a12 ?l12 ?c12 ?k12 ?a13 ?l13 ?c13 ?k13 ?a14 ?l14 ?c14 ?k14 ?a15 ?l15 ?c15 ?k15 ?a16 ?l16 ?c16 ?k16 ?a17 ?l17 ?c17 ?k17 ?a18 ?l18 ?c18 ?k18 ?a19 ?l19 ?c19 ?k19 ?a20 ?l20 ?c20 ?k20 ?a21 ?l21 ?c21 ?k21 ?a22 ?l22 ?c22 ?k22 ?a23 ?l23 ?c23 ?k23 ?a24 ?l24 ?c24 ?k24 ?a25 ?l25 ?c25 ?k25 ?a26 ?l26 ?c26 ?k26 ?a27 ?l27 ?c27 ?k27 ?n_abs ?n_all ?n_any ?n_bool ?n_enumerate ?n_int ?n_isinstance ?n_len ?n_list ?n_max ?n_min ?n_range ?n_repr ?n_reversed ?n_str ?n_tuple ?n_zip ?m_MAX_STRETCH ?dgk ?i_gcd
    (case a0 => k_is)
    (case l0 => k_is)
    (case c0 => k_is)
    (case k0 => k_is)
    (case a1 => k_is)
    (case l1 => k_is)
    (case c1 => k_is)
    (case k1 => k_is)
    (case a2 => k_is)
    (case l2 => k_is)
    (case c2 => k_is)
    (case k2 => k_is)
    (case a3 => k_is)
    (case l3 => k_is)
    (case c3 => k_is)
    (case k3 => k_is)
    (case a4 => k_is)
    (case l4 => k_is)
    (case c4 => k_is)
    (case k4 => k_is)
    (case a5 => k_is)
    (case l5 => k_is)
    (case c5 => k_is)
    (case k5 => k_is)
    (case a6 => k_is)
    (case l6 => k_is)
    (case c6 => k_is)
    (case k6 => k_is)
    (case a7 => k_is)
    (case l7 => k_is)
    (case c7 => k_is)
    (case k7 => k_is)
    (case a8 => k_is)
    (case l8 => k_is)
    (case c8 => k_is)
    (case k8 => k_is)
    (case a9 => k_is)
    (case l9 => k_is)
    (case c9 => k_is)
    (case k9 => k_is)
    (case a10 => k_is)
    (case l10 => k_is)
    (case c10 => k_is)
    (case k10 => k_is)
    (case a11 => k_is)
    (case l11 => k_is)
    (case c11 => k_is)
    (case k11 => k_is)
    (case a12 => k_is)
    (case l12 => k_is)
    (case c12 => k_is)
    (case k12 => k_is)
    (case a13 => k_is)
    (case l13 => k_is)
    (case c13 => k_is)
    (case k13 => k_is)
    (case a14 => k_is)
    (case l14 => k_is)
    (case c14 => k_is)
    (case k14 => k_is)
    (case a15 => k_is)
    (case l15 => k_is)
    (case c15 => k_is)
    (case k15 => k_is)
    (case a16 => k_is)
    (case l16 => k_is)
    (case c16 => k_is)
    (case k16 => k_is)
    (case a17 => k_is)
    (case l17 => k_is)
    (case c17 => k_is)
    (case k17 => k_is)
    (case a18 => k_is)
    (case l18 => k_is)
    (case c18 => k_is)
    (case k18 => k_is)
    (case a19 => k_is)
    (case l19 => k_is)
    (case c19 => k_is)
    (case k19 => k_is)
    (case a20 => k_is)
    (case l20 => k_is)
    (case c20 => k_is)
    (case k20 => k_is)
    (case a21 => k_is)
    (case l21 => k_is)
    (case c21 => k_is)
    (case k21 => k_is)
    (case a22 => k_is)
    (case l22 => k_is)
    (case c22 => k_is)
    (case k22 => k_is)
    (case a23 => k_is)
    (case l23 => k_is)
    (case c23 => k_is)
    (case k23 => k_is)
    (case a24 => k_is)
    (case l24 => k_is)
    (case c24 => k_is)
    (case k24 => k_is)
    (case a25 => k_is)
    (case l25 => k_is)
    (case c25 => k_is)
    (case k25 => k_is)
    (case a26 => k_is)
    (case l26 => k_is)
    (case c26 => k_is)
    (case k26 => k_is)
    (case a27 => k_is)
    (case l27 => k_is)
    (case c27 => k_is)
    (case k27 => k_is)
    (case n_abs => k_is)
    (case n_all => k_is)
    (case n_any => k_is)
    (case n_bool => k_is)
    (case n_enumerate => k_is)
    (case n_int => k_is)
    (case n_isinstance => k_is)
    (case n_len => k_is)
    (case n_list => k_is)
    (case n_max => k_is)
    (case n_min => k_is)
    (case n_range => k_is)
    (case n_repr => k_is)
    (case n_reversed => k_is)
    (case n_str => k_is)
    (case n_tuple => k_is)
    (case n_zip => k_is)
    (case m_MAX_STRETCH => k_is)
    (case dgk => k_is)
    (case i_gcd => k_is)
