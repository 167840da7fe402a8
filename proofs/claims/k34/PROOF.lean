import PyProof.Rows.All
import Wide.All
import OpenK.AllK
import Wide.FinOn
import HandS.Base
import HandS.Call
import HandS.List
import HandS.Words
import HandS.Flow
import HandS.Comp
import HandS.Iter
import HandS.Deep
import HandS.TupAny
import HandS.TupMul
import HandS.Defaults
import HandS.Rev
import HandS.Zip
import HandS.Text
import HandS.SortInts
import HandS.Ends
import KE.GoesMore
import HandS.Head0
import HandS.Head1
import HandS.Head2
import HandS.HeadEnd
import HandS.HeadHook1
import HandS.HeadHook2
import HandS.StrMore
import HandS.SetFor
import HandS.RaiseMore
import PySem.Challenge.RW_truelevels_k34_profile_is_drawn
set_option Elab.async false
set_option linter.all false
set_option maxRecDepth 100000
set_option maxHeartbeats 4000000
/-! Pw: a layer over HandS. Values with tuples as data; an abstract store for what changes; readings by a term of one's own. -/
namespace Pw
open PySem PySem.Spec PyProof.Rows L2

/-- a value: tuples are data -/
inductive D where
  | non | bl (b : Bool) | int (i : Int) | str (x : Str) | tup (xs : List D) | ref (a : Addr) | ty (n : String) | rol (a : Addr) (ns : List Int)

/-- what stands at an address of the store -/
inductive MO where
  | lst (xs : List D)
  | dic (kvs : List (Key × D))
  | ins (C : Addr) (fs : List (Str × D))

abbrev Mp := Addr → Option MO
def put (M : Mp) (a : Addr) (o : MO) : Mp := fun b => if b = a then some o else M b
theorem put_same {M : Mp} {a : Addr} {o : MO} : put M a o a = some o := by unfold put; rw [if_pos rfl]
theorem put_ne {M : Mp} {a b : Addr} {o : MO} (h : b ≠ a) : put M a o b = M b := by unfold put; rw [if_neg h]
theorem put_put {M : Mp} {a : Addr} {o u : MO} : put (put M a o) a u = put M a u := by
  funext b; unfold put; split <;> rfl
theorem ne_new {M : Mp} {a p : Addr} {o : MO} (h : M a = some o) (n : M p = none) : a ≠ p := by
  rintro rfl; rw [h] at n; cases n
theorem put_new {M : Mp} {a p : Addr} {o u : MO} (h : M a = some o) (n : M p = none) : put M p u a = some o := by rw [put_ne (ne_new h n)]; exact h

/-- a list of ints that is only read (the script) -/
def RoL (K : PySem.W.Frag) (H : Hp) (a : Addr) (ns : List Int) : Prop := (∃ o, H a = some (.frz o (.lst (ns.map V.int)))) ∨
  ∃ (o : Obj) (its : Array Value) (n : Nat), K.lookup a = some o ∧ o.cls = .type "list" ∧ o.dict = none ∧ o.data = .seq its n ∧ its.size ≤ sizeLine ∧ Vals (ns.map V.int) its.toList
theorem RoL.sq {K : PySem.W.Frag} {H : Hp} {a : Addr} {ns : List Int} (h : RoL K H a ns) : SqL K H a (ns.map V.int) := by
  rcases h with ⟨o, h⟩ | h
  · exact .inl (.inr ⟨o, h⟩)
  · exact .inr h
section
variable (K : PySem.W.Frag)
mutual
def Rep (H : Hp) : D → V → Prop
  | .non, v => v = .non
  | .bl b, v => v = .bl b
  | .int i, v => v = .int i
  | .str x, v => v = .str x
  | .tup ds, v => ∃ a xs, v = .ref a ∧ SqT K H a xs ∧ RepL H ds xs
  | .ref a, v => v = .ref a
  | .ty n, v => v = .ty n
  | .rol a ns, v => v = .ref a ∧ RoL K H a ns
def RepL (H : Hp) : List D → List V → Prop
  | [], vs => vs = []
  | d :: ds, vs => ∃ v r, vs = v :: r ∧ Rep H d v ∧ RepL H ds r
end
end

/-- what is tuple or known stays -/
structure TX (H H' : Hp) : Prop where
  tup : ∀ b xs, H b = some (.tup xs) → H' b = some (.tup xs)
  frz : ∀ b o u, H b = some (.frz o u) → H' b = some (.frz o u)
theorem TX.refl {H : Hp} : TX H H := ⟨fun _ _ h => h, fun _ _ _ h => h⟩
theorem TX.trans {H H1 H2 : Hp} (a : TX H H1) (b : TX H1 H2) : TX H H2 := ⟨fun c x h => b.tup c x (a.tup c x h), fun c o u h => b.frz c o u (a.frz c o u h)⟩
theorem TX.new {H : Hp} {p : Addr} {o : HO} (n : H p = none) : TX H (upd H p o) :=
  ⟨fun b xs h => by rw [upd_ne (ne_of_none h n)]; exact h, fun b o u h => by rw [upd_ne (ne_of_none h n)]; exact h⟩
theorem TX.lst {H : Hp} {p : Addr} {xs : List V} {o : HO} (n : H p = some (.lst xs)) : TX H (upd H p o) :=
  ⟨fun b ys h => by rw [upd_ne (ne_of h n (by intro z; cases z))]; exact h, fun b o u h => by rw [upd_ne (ne_of h n (by intro z; cases z))]; exact h⟩
theorem TX.dic {H : Hp} {p : Addr} {xs : List (Key × V)} {o : HO} (n : H p = some (.dK xs)) : TX H (upd H p o) :=
  ⟨fun b ys h => by rw [upd_ne (ne_of h n (by intro z; cases z))]; exact h, fun b o u h => by rw [upd_ne (ne_of h n (by intro z; cases z))]; exact h⟩
theorem TX.ins {H : Hp} {p C dx : Addr} {fs : List (Str × V)} {o : HO} (n : H p = some (.ins C dx fs)) : TX H (upd H p o) :=
  ⟨fun b ys h => by rw [upd_ne (ne_of h n (by intro z; cases z))]; exact h, fun b o u h => by rw [upd_ne (ne_of h n (by intro z; cases z))]; exact h⟩
theorem TX.seqT {K : PySem.W.Frag} {H H' : Hp} (e : TX H H') {a : Addr} {xs : List V} (h : SqT K H a xs) : SqT K H' a xs := by
  rcases h with (h | ⟨o, h⟩) | h
  · exact .inl (.inl (e.tup _ _ h))
  · exact .inl (.inr ⟨o, e.frz _ _ _ h⟩)
  · exact .inr h
theorem TX.rol {K : PySem.W.Frag} {H H' : Hp} (e : TX H H') {a : Addr} {ns : List Int} (h : RoL K H a ns) : RoL K H' a ns := by
  rcases h with ⟨o, h⟩ | h
  · exact .inl ⟨o, e.frz _ _ _ h⟩
  · exact .inr h
mutual
theorem Rep.mono {K : PySem.W.Frag} {H H' : Hp} (e : TX H H') : ∀ (d : D) {v : V}, Rep K H d v → Rep K H' d v
  | .non, _, h => by unfold Rep at h ⊢; exact h
  | .bl b, _, h => by unfold Rep at h ⊢; exact h
  | .int i, _, h => by unfold Rep at h ⊢; exact h
  | .str x, _, h => by unfold Rep at h ⊢; exact h
  | .tup ds, _, h => by
    unfold Rep at h ⊢
    obtain ⟨a, xs, rfl, q, r⟩ := h
    exact ⟨a, xs, rfl, e.seqT q, RepL.mono e ds r⟩
  | .ref a, _, h => by unfold Rep at h ⊢; exact h
  | .ty n, _, h => by unfold Rep at h ⊢; exact h
  | .rol a ns, _, h => by unfold Rep at h ⊢; exact ⟨h.1, e.rol h.2⟩
theorem RepL.mono {K : PySem.W.Frag} {H H' : Hp} (e : TX H H') : ∀ (ds : List D) {vs : List V}, RepL K H ds vs → RepL K H' ds vs
  | [], _, h => by unfold RepL at h ⊢; exact h
  | d :: ds, _, h => by
    unfold RepL at h ⊢
    obtain ⟨v, r, rfl, q, t⟩ := h
    exact ⟨v, r, rfl, Rep.mono e d q, RepL.mono e ds t⟩
end
section
variable {K : PySem.W.Frag} {H H' : Hp}
theorem repL_nil : RepL K H [] [] := by unfold RepL; rfl
theorem repL_cons {d : D} {ds : List D} {v : V} {vs : List V} (h : Rep K H d v) (t : RepL K H ds vs) : RepL K H (d :: ds) (v :: vs) := by unfold RepL; exact ⟨v, vs, rfl, h, t⟩
theorem RepL.len : ∀ {ds : List D} {vs : List V}, RepL K H ds vs → vs.length = ds.length
  | [], _, h => by unfold RepL at h; subst h; rfl
  | d :: ds, _, h => by
    unfold RepL at h
    obtain ⟨v, r, rfl, _, t⟩ := h
    simp [RepL.len t]
theorem RepL.get : ∀ {ds : List D} {vs : List V} {i : Nat} {d : D}, RepL K H ds vs → ds[i]? = some d → ∃ v, vs[i]? = some v ∧ Rep K H d v
  | [], _, _, _, _, e => by simp at e
  | d :: ds, _, 0, _, h, e => by
    unfold RepL at h
    obtain ⟨v, r, rfl, q, t⟩ := h
    simp at e; subst e
    exact ⟨v, rfl, q⟩
  | d :: ds, _, i + 1, _, h, e => by
    unfold RepL at h
    obtain ⟨v, r, rfl, q, t⟩ := h
    obtain ⟨u, a, b⟩ := RepL.get (i := i) t (by simpa using e)
    exact ⟨u, by simpa using a, b⟩
theorem RepL.getV : ∀ {ds : List D} {vs : List V} {i : Nat} {v : V}, RepL K H ds vs → vs[i]? = some v → ∃ d, ds[i]? = some d ∧ Rep K H d v := fun {ds vs i v} h e => by
  have hl := h.len
  have hi : i < ds.length := by rw [← hl]; exact (List.getElem?_eq_some_iff.mp e).1
  obtain ⟨u, a, b⟩ := h.get (List.getElem?_eq_getElem hi)
  rw [e] at a; cases a
  exact ⟨_, List.getElem?_eq_getElem hi, b⟩
theorem RepL.append : ∀ {ds es : List D} {vs us : List V}, RepL K H ds vs → RepL K H es us → RepL K H (ds ++ es) (vs ++ us)
  | [], _, _, _, h, t => by unfold RepL at h; subst h; exact t
  | d :: ds, _, _, _, h, t => by
    unfold RepL at h
    obtain ⟨v, r, rfl, q, h⟩ := h
    exact repL_cons q (RepL.append h t)
theorem RepL.take : ∀ {ds : List D} {vs : List V} (n : Nat), RepL K H ds vs → RepL K H (ds.take n) (vs.take n)
  | _, _, 0, _ => repL_nil
  | [], _, _ + 1, h => by unfold RepL at h; subst h; exact repL_nil
  | d :: ds, _, n + 1, h => by
    unfold RepL at h
    obtain ⟨v, r, rfl, q, h⟩ := h
    exact repL_cons q (RepL.take n h)
theorem RepL.drop : ∀ {ds : List D} {vs : List V} (n : Nat), RepL K H ds vs → RepL K H (ds.drop n) (vs.drop n)
  | _, _, 0, h => h
  | [], _, _ + 1, h => by unfold RepL at h; subst h; exact repL_nil
  | d :: ds, _, n + 1, h => by
    unfold RepL at h
    obtain ⟨v, r, rfl, q, h⟩ := h
    exact RepL.drop n h
theorem RepL.set {d : D} {v : V} (q : Rep K H d v) : ∀ {ds : List D} {vs : List V} (n : Nat), RepL K H ds vs → RepL K H (ds.set n d) (vs.set n v)
  | [], _, _, h => by unfold RepL at h; subst h; exact repL_nil
  | e :: ds, _, 0, h => by
    unfold RepL at h
    obtain ⟨w, r, rfl, _, h⟩ := h
    exact repL_cons q h
  | e :: ds, _, n + 1, h => by
    unfold RepL at h
    obtain ⟨w, r, rfl, p, h⟩ := h
    exact repL_cons p (RepL.set q n h)
theorem RepL.erase : ∀ {ds : List D} {vs : List V} (n : Nat), RepL K H ds vs → RepL K H (ds.eraseIdx n) (vs.eraseIdx n)
  | [], _, _, h => by unfold RepL at h; subst h; exact repL_nil
  | e :: ds, _, 0, h => by
    unfold RepL at h
    obtain ⟨w, r, rfl, _, h⟩ := h
    exact h
  | e :: ds, _, n + 1, h => by
    unfold RepL at h
    obtain ⟨w, r, rfl, p, h⟩ := h
    exact repL_cons p (RepL.erase n h)
theorem RepL.rev : ∀ {ds : List D} {vs : List V}, RepL K H ds vs → RepL K H ds.reverse vs.reverse
  | [], _, h => by unfold RepL at h; subst h; exact repL_nil
  | d :: ds, _, h => by
    unfold RepL at h
    obtain ⟨v, r, rfl, q, h⟩ := h
    rw [List.reverse_cons, List.reverse_cons]
    exact (RepL.rev h).append (repL_cons q repL_nil)
theorem RepL.ints : ∀ {ns : List Int} {vs : List V}, RepL K H (ns.map D.int) vs → vs = ns.map V.int
  | [], _, h => by unfold RepL at h; exact h
  | n :: ns, _, h => by
    unfold RepL at h
    obtain ⟨v, r, rfl, q, h⟩ := h
    unfold Rep at q
    rw [q, RepL.ints h]; rfl
theorem repL_ints : ∀ (ns : List Int), RepL K H (ns.map D.int) (ns.map V.int)
  | [] => repL_nil
  | n :: ns => repL_cons (by unfold Rep; rfl) (repL_ints ns)
theorem RepL.strs : ∀ {ns : List Str} {vs : List V}, RepL K H (ns.map D.str) vs → vs = ns.map V.str
  | [], _, h => by unfold RepL at h; exact h
  | n :: ns, _, h => by
    unfold RepL at h
    obtain ⟨v, r, rfl, q, h⟩ := h
    unfold Rep at q
    rw [q, RepL.strs h]; rfl
theorem repL_strs : ∀ (ns : List Str), RepL K H (ns.map D.str) (ns.map V.str)
  | [] => repL_nil
  | n :: ns => repL_cons (by unfold Rep; rfl) (repL_strs ns)
theorem RepL.bls : ∀ {ns : List Bool} {vs : List V}, RepL K H (ns.map D.bl) vs → vs = ns.map V.bl
  | [], _, h => by unfold RepL at h; exact h
  | n :: ns, _, h => by
    unfold RepL at h
    obtain ⟨v, r, rfl, q, h⟩ := h
    unfold Rep at q
    rw [q, RepL.bls h]; rfl
end

/-- fields in order -/
inductive RepF (K : PySem.W.Frag) (H : Hp) : List (Str × D) → List (Str × V) → Prop
  | nil : RepF K H [] []
  | cons {f : Str} {d : D} {v : V} {fs : List (Str × D)} {gs : List (Str × V)} : Rep K H d v → RepF K H fs gs → RepF K H ((f, d) :: fs) ((f, v) :: gs)
inductive RepK (K : PySem.W.Frag) (H : Hp) : List (Key × D) → List (Key × V) → Prop
  | nil : RepK K H [] []
  | cons {f : Key} {d : D} {v : V} {fs : List (Key × D)} {gs : List (Key × V)} : Rep K H d v → RepK K H fs gs → RepK K H ((f, d) :: fs) ((f, v) :: gs)
theorem RepF.mono {K : PySem.W.Frag} {H H' : Hp} (e : TX H H') {fs : List (Str × D)} {gs : List (Str × V)} (h : RepF K H fs gs) : RepF K H' fs gs := by
  induction h with
  | nil => exact .nil
  | cons q _ ih => exact .cons (q.mono e) ih
theorem RepK.mono {K : PySem.W.Frag} {H H' : Hp} (e : TX H H') {fs : List (Key × D)} {gs : List (Key × V)} (h : RepK K H fs gs) : RepK K H' fs gs := by
  induction h with
  | nil => exact .nil
  | cons q _ ih => exact .cons (q.mono e) ih

def RepO (K : PySem.W.Frag) (H : Hp) (a : Addr) : MO → Prop
  | .lst ds => ∃ vs, H a = some (.lst vs) ∧ RepL K H ds vs
  | .dic kvs => ∃ vs, H a = some (.dK vs) ∧ RepK K H kvs vs
  | .ins C fs => ∃ dx gs, H a = some (.ins C dx gs) ∧ RepF K H fs gs
/-- the store stands in the heap -/
def Sim (K : PySem.W.Frag) (H : Hp) (M : Mp) : Prop := ∀ a o, M a = some o → RepO K H a o
abbrev Rho := List (Option D)
/-- what is known of the store may be less -/
def Mp.le (M0 M : Mp) : Prop := ∀ a o, M0 a = some o → M a = some o
theorem Mp.le.refl {M : Mp} : M.le M := fun _ _ h => h
theorem Mp.le.trans {A B C : Mp} (h : A.le B) (k : B.le C) : A.le C := fun a o e => k a o (h a o e)
theorem Sim.le {K : PySem.W.Frag} {H : Hp} {M0 M : Mp} (h : Sim K H M) (l : M0.le M) : Sim K H M0 := fun a o e => h a o (l a o e)
theorem Mp.le.new {M : Mp} {p : Addr} {o : MO} (n : M p = none) : M.le (put M p o) := fun a u h => put_new h n
/-- .. of the slots -/
inductive Rle : Rho → Rho → Prop
  | nil : Rle [] []
  | keep {o : Option D} {r s : Rho} : Rle r s → Rle (o :: r) (o :: s)
  | drop {o : Option D} {r s : Rho} : Rle r s → Rle (none :: r) (o :: s)
theorem Rle.refl : ∀ {r : Rho}, Rle r r
  | [] => .nil
  | _ :: _ => .keep Rle.refl
theorem Rle.len {r s : Rho} (h : Rle r s) : r.length = s.length := by
  induction h with
  | nil => rfl
  | keep _ ih => simp [ih]
  | drop _ ih => simp [ih]
theorem Rle.get {r s : Rho} (h : Rle r s) : ∀ {i : Nat} {d : D}, r[i]? = some (some d) → s[i]? = some (some d) := by
  induction h with
  | nil => intro i d e; simp at e
  | keep _ ih =>
    intro i d e
    cases i with
    | zero => simpa using e
    | succ i => simp only [List.getElem?_cons_succ] at e ⊢; exact ih e
  | drop _ ih =>
    intro i d e
    cases i with
    | zero => simp at e
    | succ i => simp only [List.getElem?_cons_succ] at e ⊢; exact ih e
/-- less may be known -/
def Fg (u : Rho → Mp → Prop) : Rho → Mp → Prop := fun ρ M => ∃ ρ0 M0, Rle ρ0 ρ ∧ Mp.le M0 M ∧ u ρ0 M0
theorem Fg.of {u : Rho → Mp → Prop} {ρ : Rho} {M : Mp} (h : u ρ M) : Fg u ρ M := ⟨ρ, M, Rle.refl, Mp.le.refl, h⟩
/-- the slots -/
def SimS (K : PySem.W.Frag) (H : Hp) (σ : L2.St) (ρ : Rho) : Prop := σ.length = ρ.length ∧ ∀ (i : Nat) (d : D), ρ[i]? = some (some d) → ∃ v : V, σ[i]? = some (some v) ∧ Rep K H d v
section
variable {K : PySem.W.Frag} {H H' : Hp} {M : Mp} {σ : L2.St} {ρ : Rho}
theorem SimS.le {ρ0 : Rho} (h : SimS K H σ ρ) (l : Rle ρ0 ρ) : SimS K H σ ρ0 := ⟨by rw [h.1, l.len], fun i d e => h.2 i d (l.get e)⟩
theorem SimS.mono (h : SimS K H σ ρ) (e : TX H H') : SimS K H' σ ρ := ⟨h.1, fun i d q => let ⟨v, a, b⟩ := h.2 i d q; ⟨v, a, b.mono e⟩⟩
theorem SimS.set (h : SimS K H σ ρ) {i : Nat} {d : D} {v : V} (q : Rep K H d v) : SimS K H (σ.set i (some v)) (ρ.set i (some d)) := by
  refine ⟨by simp [h.1], fun j e z => ?_⟩
  by_cases hj : i = j
  · subst hj
    by_cases hi : i < ρ.length
    · rw [List.getElem?_set_self hi] at z
      cases z
      exact ⟨v, List.getElem?_set_self (by rw [h.1]; exact hi), q⟩
    · rw [List.getElem?_eq_none (by simpa using hi)] at z; cases z
  · rw [List.getElem?_set_ne hj] at z ⊢
    exact h.2 j e z
theorem Sim.free (h : Sim K H M) {p : Addr} (n : H p = none) : M p = none := by
  cases e : M p with
  | none => rfl
  | some o =>
    have q := h p o e
    cases o with
    | lst ds => obtain ⟨vs, z, _⟩ := q; rw [n] at z; cases z
    | dic kvs => obtain ⟨vs, z, _⟩ := q; rw [n] at z; cases z
    | ins C fs => obtain ⟨dx, gs, z, _⟩ := q; rw [n] at z; cases z
theorem RepO.stay {a : Addr} {o : MO} (h : RepO K H a o) (e : TX H H') (k : H' a = H a) : RepO K H' a o := by
  cases o with
  | lst ds => obtain ⟨vs, z, r⟩ := h; exact ⟨vs, k.trans z, r.mono e⟩
  | dic kvs => obtain ⟨vs, z, r⟩ := h; exact ⟨vs, k.trans z, r.mono e⟩
  | ins C fs => obtain ⟨dx, gs, z, r⟩ := h; exact ⟨dx, gs, k.trans z, r.mono e⟩
theorem RepO.some {a : Addr} {o : MO} (h : RepO K H a o) : ∃ u, H a = some u := by
  cases o with
  | lst ds => obtain ⟨vs, z, r⟩ := h; exact ⟨_, z⟩
  | dic kvs => obtain ⟨vs, z, r⟩ := h; exact ⟨_, z⟩
  | ins C fs => obtain ⟨dx, gs, z, r⟩ := h; exact ⟨_, z⟩
/-- a new object that the store does not know (a tuple, ..) -/
theorem Sim.new (h : Sim K H M) {p : Addr} {o : HO} (n : H p = none) : Sim K (upd H p o) M := fun a u e => by
  refine (h a u e).stay (TX.new n) (upd_ne ?_)
  rintro rfl
  rw [h.free n] at e; cases e
theorem Sim.put (h : Sim K H M) {p : Addr} {o : HO} {u : MO} (e : TX H (upd H p o)) (r : RepO K (upd H p o) p u) : Sim K (upd H p o) (put M p u) := fun a w q => by
  by_cases ha : a = p
  · subst ha; rw [put_same] at q; cases q; exact r
  · rw [put_ne ha] at q
    exact (h a w q).stay e (upd_ne ha)
theorem repO_lst {p : Addr} {ds : List D} {vs : List V} (e : TX H (upd H p (.lst vs))) (r : RepL K H ds vs) : RepO K (upd H p (.lst vs)) p (.lst ds) := ⟨vs, upd_same, r.mono e⟩
theorem Sim.lst (h : Sim K H M) {a : Addr} {ds : List D} (e : M a = some (.lst ds)) : ∃ vs, H a = some (.lst vs) ∧ RepL K H ds vs := h a _ e
end

/-! ### readings -/
abbrev E' := Rho → Mp → (D → Mp → Prop) → Prop
abbrev A' := Rho → Mp → (List D → Mp → Prop) → Prop
abbrev T' := Rho → Mp → (Bool → Mp → Prop) → Prop
def liftE (K : PySem.W.Frag) (t : E') : TE := fun σ H Q => ∃ ρ M Q', SimS K H σ ρ ∧ Sim K H M ∧ t ρ M Q' ∧ ∀ d M' v H', Q' d M' → TX H H' → Sim K H' M' → Rep K H' d v → Q v H'
def liftA (K : PySem.W.Frag) (t : A') : TA := fun σ H Q => ∃ ρ M Q', SimS K H σ ρ ∧ Sim K H M ∧ t ρ M Q' ∧ ∀ d M' v H', Q' d M' → TX H H' → Sim K H' M' → RepL K H' d v → Q v H'
def liftT (K : PySem.W.Frag) (t : T') : TT := fun σ H Q => ∃ ρ M Q', SimS K H σ ρ ∧ Sim K H M ∧ t ρ M Q' ∧ ∀ b M' H', Q' b M' → TX H H' → Sim K H' M' → Q b H'
abbrev PE' (X : Cx) (e : Expr) (t : E') : Prop := PE X e (liftE X.K t)
abbrev PA' (X : Cx) (e : List Expr) (t : A') : Prop := PA X e (liftA X.K t)
abbrev PT' (X : Cx) (e : Expr) (t : T') : Prop := PT X e (liftT X.K t)
abbrev PW' (X : Cx) (e : Expr) (t : T') : Prop := PW X e (liftT X.K t)
theorem _root_.L2.PE.weak {X : Cx} {e : Expr} {t u : TE} (h : PE X e t) (w : ∀ σ H Q, u σ H Q → t σ H Q) : PE X e u := ⟨fun pins s σ H Q I q => h.run pins s σ H Q I (w σ H Q q)⟩
theorem _root_.L2.PT.weak {X : Cx} {e : Expr} {t u : TT} (h : PT X e t) (w : ∀ σ H Q, u σ H Q → t σ H Q) : PT X e u := ⟨fun pins s σ H Q I q => h.run pins s σ H Q I (w σ H Q q)⟩
theorem _root_.L2.PW.weak {X : Cx} {e : Expr} {t u : TT} (h : PW X e t) (w : ∀ σ H Q, u σ H Q → t σ H Q) : PW X e u := ⟨fun wh pins s σ H Q I q => h.run wh pins s σ H Q I (w σ H Q q)⟩
theorem _root_.L2.PA.weak {X : Cx} {e : List Expr} {t u : TA} (h : PA X e t) (w : ∀ σ H Q, u σ H Q → t σ H Q) : PA X e u := ⟨fun pos pins s σ H Q I q => h.run pos pins s σ H Q I (w σ H Q q)⟩
/-- the reading under way: from values to what is wanted -/
theorem lift_bind {K : PySem.W.Frag} {t : E'} {ρ : Rho} {M : Mp} {σ : L2.St} {H : Hp} {Q' : D → Mp → Prop} {Q : VK} (hs : SimS K H σ ρ) (hm : Sim K H M) (h : t ρ M Q')
    (k : ∀ d M' v H', Q' d M' → TX H H' → Sim K H' M' → Rep K H' d v → Q v H') : liftE K t σ H Q := ⟨ρ, M, Q', hs, hm, h, k⟩
end Pw
set_option Elab.async false
set_option linter.all false
set_option maxRecDepth 100000
set_option maxHeartbeats 4000000
namespace Pw
open PySem PySem.Spec PyProof.Rows L2

abbrev Q1 := D → Mp → Prop
abbrev R2' := D → D → Mp → Q1 → Prop
abbrev RC' := List D → Mp → Q1 → Prop
abbrev RM' := D → List D → Mp → Q1 → Prop
section
variable (K : PySem.W.Frag)
def lift2 (r : R2') : R2 := fun x y H Q => ∃ d e M Q', Rep K H d x ∧ Rep K H e y ∧ Sim K H M ∧ r d e M Q' ∧ ∀ z M' v H', Q' z M' → TX H H' → Sim K H' M' → Rep K H' z v → Q v H'
def liftC (r : RC') : List V → Hp → VK → Prop := fun xs H Q => ∃ ds M Q', RepL K H ds xs ∧ Sim K H M ∧ r ds M Q' ∧ ∀ z M' v H', Q' z M' → TX H H' → Sim K H' M' → Rep K H' z v → Q v H'
def liftM (r : RM') : V → List V → Hp → VK → Prop := fun x xs H Q => ∃ d ds M Q', Rep K H d x ∧ RepL K H ds xs ∧ Sim K H M ∧ r d ds M Q' ∧ ∀ z M' v H', Q' z M' → TX H H' → Sim K H' M' → Rep K H' z v → Q v H'
end
abbrev OpR' (X : Cx) (f : Value → Value → Sem Value) (r : R2') : Prop := OpR X f (lift2 X.K r)
abbrev CallR' (X : Cx) (f : Value) (r : RC') : Prop := CallR X f (liftC X.K r)
abbrev IxR' (X : Cx) (r : R2') : Prop := IxR X (lift2 X.K r)
theorem _root_.L2.OpR.weak {X : Cx} {f : Value → Value → Sem Value} {r u : R2} (h : OpR X f r) (w : ∀ x y H Q, u x y H Q → r x y H Q) : OpR X f u := fun pins s σ H x y v z Q I rx ry q => h pins s σ H x y v z Q I rx ry (w x y H Q q)
theorem _root_.L2.IxR.weak {X : Cx} {r u : R2} (h : IxR X r) (w : ∀ x y H Q, u x y H Q → r x y H Q) : IxR X u := fun a b pins s σ H x y v z Q I rx ry q hs => h a b pins s σ H x y v z Q I rx ry (w x y H Q q) hs
theorem _root_.L2.CallR.weak {X : Cx} {f : Value} {r u : List V → Hp → VK → Prop} (h : CallR X f r) (w : ∀ xs H Q, u xs H Q → r xs H Q) : CallR X f u := fun pins s σ H xs us Q I r q => h pins s σ H xs us Q I r (w xs H Q q)
theorem _root_.L2.MtR.weak {X : Cx} {id : String} {r u : V → List V → Hp → VK → Prop} (h : MtR X id r) (w : ∀ x xs H Q, u x xs H Q → r x xs H Q) : MtR X id u := fun pins s σ H x xs v us Q I rx r q => h pins s σ H x xs v us Q I rx r (w x xs H Q q)

/-! ### expressions from parts -/
section
variable {X : Cx} {a b c : Expr} {ta tb tc : E'} {pos : Pos}
def b2' (r : R2') (ta tb : E') : E' := fun ρ M Q => ta ρ M fun x M1 => tb ρ M1 fun y M2 => r x y M2 Q
theorem l2E {r : R2'} : ∀ σ H Q, liftE X.K (b2' r ta tb) σ H Q → tOp (lift2 X.K r) (liftE X.K ta) (liftE X.K tb) σ H Q := by
  rintro σ H Q ⟨ρ, M, Q', hs, hm, h, k⟩
  refine ⟨ρ, M, _, hs, hm, h, fun d M1 v H1 q1 e1 m1 r1 => ⟨ρ, M1, _, hs.mono e1, m1, q1, fun e M2 u H2 q2 e2 m2 r2 => ⟨d, e, M2, Q', r1.mono e2, r2, m2, q2, fun z M' w H' q' e' m' r' => k _ _ _ _ q' ((e1.trans e2).trans e') m' r'⟩⟩⟩
theorem pe_op' {op : Operator} {r : R2'} (ho : OpR' X (binaryOp op) r) (ha : PE' X a ta) (hb : PE' X b tb) : PE' X (.BinOp a op b pos) (b2' r ta tb) := (pe_op ho ha hb).weak l2E
theorem pe_cmp' {op : CmpOp} {r : R2'} (ho : OpR' X (compareOp op) r) (ha : PE' X a ta) (hb : PE' X b tb) (hm : behindInMarks op b = false) : PE' X (.Compare a [op] [b] pos) (b2' r ta tb) := (pe_cmpR ho ha hb hm).weak l2E
theorem pe_ix' {r : R2'} (hr : IxR' X r) (ha : PE' X a ta) (hb : PE' X b tb) (hs : PlainIx b) : PE' X (.Subscript a b pos) (b2' r ta tb) := (pe_ix hr ha hb hs).weak l2E
def chain' (r r' : R2') (ta tb tc : E') : E' := fun ρ M Q => ta ρ M fun x M1 => tb ρ M1 fun y M2 => r x y M2 fun z M3 => ∃ k, z = .bl k ∧ if k = true then tc ρ M3 fun w M4 => r' y w M4 Q else Q (.bl false) M3
theorem rep_bl {K : PySem.W.Frag} {H : Hp} {k : Bool} {v : V} (h : Rep K H (.bl k) v) : v = .bl k := by unfold Rep at h; exact h
theorem rep_int {K : PySem.W.Frag} {H : Hp} {k : Int} {v : V} (h : Rep K H (.int k) v) : v = .int k := by unfold Rep at h; exact h
theorem rep_str {K : PySem.W.Frag} {H : Hp} {k : Str} {v : V} (h : Rep K H (.str k) v) : v = .str k := by unfold Rep at h; exact h
theorem rep_non {K : PySem.W.Frag} {H : Hp} {v : V} (h : Rep K H .non v) : v = .non := by unfold Rep at h; exact h
theorem rep_ref {K : PySem.W.Frag} {H : Hp} {a : Addr} {v : V} (h : Rep K H (.ref a) v) : v = .ref a := by unfold Rep at h; exact h
theorem rep_ty {K : PySem.W.Frag} {H : Hp} {a : String} {v : V} (h : Rep K H (.ty a) v) : v = .ty a := by unfold Rep at h; exact h
theorem rep_rol {K : PySem.W.Frag} {H : Hp} {a : Addr} {ns : List Int} {v : V} (h : Rep K H (.rol a ns) v) : v = .ref a ∧ RoL K H a ns := by unfold Rep at h; exact h
theorem rep_tup {K : PySem.W.Frag} {H : Hp} {ds : List D} {v : V} (h : Rep K H (.tup ds) v) : ∃ a xs, v = .ref a ∧ SqT K H a xs ∧ RepL K H ds xs := by unfold Rep at h; exact h
theorem mk_bl {K : PySem.W.Frag} {H : Hp} {k : Bool} : Rep K H (.bl k) (.bl k) := by unfold Rep; rfl
theorem mk_int {K : PySem.W.Frag} {H : Hp} {k : Int} : Rep K H (.int k) (.int k) := by unfold Rep; rfl
theorem mk_str {K : PySem.W.Frag} {H : Hp} {k : Str} : Rep K H (.str k) (.str k) := by unfold Rep; rfl
theorem mk_non {K : PySem.W.Frag} {H : Hp} : Rep K H .non .non := by unfold Rep; rfl
theorem mk_ref {K : PySem.W.Frag} {H : Hp} {a : Addr} : Rep K H (.ref a) (.ref a) := by unfold Rep; rfl
theorem mk_ty {K : PySem.W.Frag} {H : Hp} {a : String} : Rep K H (.ty a) (.ty a) := by unfold Rep; rfl
theorem mk_tup {K : PySem.W.Frag} {H : Hp} {a : Addr} {ds : List D} {xs : List V} (h : SqT K H a xs) (r : RepL K H ds xs) : Rep K H (.tup ds) (.ref a) := by unfold Rep; exact ⟨a, xs, rfl, h, r⟩
/-- a new tuple -/
theorem new_tup {K : PySem.W.Frag} {H : Hp} {p : Addr} {ds : List D} {xs : List V} (n : H p = none) (r : RepL K H ds xs) : Rep K (upd H p (.tup xs)) (.tup ds) (.ref p) := mk_tup (SqT.of upd_same) (r.mono (TX.new n))
theorem pe_chain' {op op' : CmpOp} {r r' : R2'} (ho : OpR' X (compareOp op) r) (ho' : OpR' X (compareOp op') r') (ha : PE' X a ta) (hb : PE' X b tb) (hc : PE' X c tc) (hm : lastMarks [op, op'] [b, c] = false) :
    PE' X (.Compare a [op, op'] [b, c] pos) (chain' r r' ta tb tc) := by
  refine (pe_chain ho ho' ha hb hc hm).weak ?_
  rintro σ H Q ⟨ρ, M, Q', hs, hm, h, k⟩
  refine ⟨ρ, M, _, hs, hm, h, fun d M1 v H1 q1 e1 m1 r1 => ⟨ρ, M1, _, hs.mono e1, m1, q1, fun e M2 u H2 q2 e2 m2 r2 => ⟨d, e, M2, _, r1.mono e2, r2, m2, q2, fun z M3 w H3 q3 e3 m3 r3 => ?_⟩⟩⟩
  obtain ⟨b, rfl, q3⟩ := q3
  refine ⟨b, rep_bl r3, ?_⟩
  cases b with
  | false =>
    rw [if_neg Bool.false_ne_true] at q3 ⊢
    exact k _ _ _ _ q3 ((e1.trans e2).trans e3) m3 mk_bl
  | true =>
    rw [if_pos rfl] at q3 ⊢
    exact ⟨ρ, M3, _, hs.mono ((e1.trans e2).trans e3), m3, q3, fun f M4 u4 H4 q4 e4 m4 r4 => ⟨e, f, M4, Q', r2.mono (e3.trans e4), r4, m4, q4, fun z M' w H' q' e' m' r' => k _ _ _ _ q' ((((e1.trans e2).trans e3).trans e4).trans e') m' r'⟩⟩

/-! ### names, constants -/
def var' (i : Nat) : E' := fun ρ M Q => match ρ[i]? with
  | some (some d) => Q d M
  | _ => False
def con' (d : D) : E' := fun _ M Q => Q d M
theorem var_of {ρ : Rho} {i : Nat} {M : Mp} {Q : Q1} (h : var' i ρ M Q) : ∃ d, ρ[i]? = some (some d) ∧ Q d M := by
  unfold var' at h
  split at h
  · rename_i d e; exact ⟨d, e, h⟩
  · exact h.elim
theorem pe_var' {i : Nat} {x : Str} (hN : X.N[i]? = some x) (hv : Vis X.env.scope x) (hd : (x == ("__debug__" : Str)) = false) (hcd : (x == ("__classdict__" : Str)) = false) : PE' X (.Name x pos) (var' i) := by
  refine (pe_var hN hv hd hcd).weak ?_
  rintro σ H Q ⟨ρ, M, Q', hs, hm, h, k⟩
  obtain ⟨d, e, q⟩ := var_of h
  obtain ⟨v, a, r⟩ := hs.2 i d e
  exact ⟨v, a, k _ _ _ _ q TX.refl hm r⟩
theorem con_weak {d : D} {v : V} (r : ∀ H, Rep X.K H d v) : ∀ σ H Q, liftE X.K (con' d) σ H Q → tC v σ H Q := by
  rintro σ H Q ⟨ρ, M, Q', hs, hm, h, k⟩
  exact k _ _ _ _ h TX.refl hm (r H)
theorem pe_int' {i : Int} {j} : PE' X (.Constant (.int i) j pos) (con' (.int i)) := pe_int.weak (con_weak fun _ => mk_int)
theorem pe_str' {i : Str} {j} : PE' X (.Constant (.str i) j pos) (con' (.str i)) := pe_str.weak (con_weak fun _ => mk_str)
theorem pe_bl' {i : Bool} {j} : PE' X (.Constant (.bool i) j pos) (con' (.bl i)) := pe_bl.weak (con_weak fun _ => mk_bl)
theorem pe_non' {j} : PE' X (.Constant .none j pos) (con' .non) := pe_non.weak (con_weak fun _ => mk_non)

/-! ### argument lists, displays -/
def nil' : A' := fun _ M Q => Q [] M
def cons' (ta : E') (tr : A') : A' := fun ρ M Q => ta ρ M fun x M1 => tr ρ M1 fun xs M2 => Q (x :: xs) M2
variable {es : List Expr} {t : A'}
theorem pa_nil' : PA' X [] nil' := pa_nil.weak (by
  rintro σ H Q ⟨ρ, M, Q', hs, hm, h, k⟩
  exact k _ _ _ _ h TX.refl hm repL_nil)
theorem pa_cons' (ha : PE' X a ta) (hr : PA' X es t) (hs : starEach (a :: es) X.env = (false, eval a X.env) :: starEach es X.env) : PA' X (a :: es) (cons' ta t) := (pa_cons ha hr hs).weak (by
  rintro σ H Q ⟨ρ, M, Q', hs, hm, h, k⟩
  exact ⟨ρ, M, _, hs, hm, h, fun d M1 v H1 q1 e1 m1 r1 => ⟨ρ, M1, _, hs.mono e1, m1, q1, fun ds M2 vs H2 q2 e2 m2 r2 => k _ _ _ _ q2 (e1.trans e2) m2 (repL_cons (r1.mono e2) r2)⟩⟩)
def tup' (t : A') : E' := fun ρ M Q => t ρ M fun ds M1 => ds.length ≤ sizeLine ∧ Q (.tup ds) M1
def lst' (t : A') : E' := fun ρ M Q => t ρ M fun ds M1 => ds.length ≤ sizeLine ∧ ∀ p, M1 p = none → Q (.ref p) (put M1 p (.lst ds))
theorem pe_tup' {k} (h : PA' X es t) : PE' X (.Tuple es k pos) (tup' t) := (pe_tup h).weak (by
  rintro σ H Q ⟨ρ, M, Q', hs, hm, h, k⟩
  refine ⟨ρ, M, _, hs, hm, h, fun ds M1 vs H1 q1 e1 m1 r1 => ⟨by rw [r1.len]; exact q1.1, fun p n => k _ _ _ _ q1.2 (e1.trans (TX.new n)) (m1.new n) (new_tup n r1)⟩⟩)
theorem new_lst {K : PySem.W.Frag} {H : Hp} {M : Mp} {p : Addr} {ds : List D} {vs : List V} (m : Sim K H M) (n : H p = none) (r : RepL K H ds vs) : Sim K (upd H p (.lst vs)) (put M p (.lst ds)) := m.put (TX.new n) (repO_lst (TX.new n) r)
theorem pe_lst' (h : PA' X es t) : PE' X (.List es pos) (lst' t) := (pe_lst h).weak (by
  rintro σ H Q ⟨ρ, M, Q', hs, hm, h, k⟩
  refine ⟨ρ, M, _, hs, hm, h, fun ds M1 vs H1 q1 e1 m1 r1 => ⟨by rw [r1.len]; exact q1.1, fun p n => k _ _ _ _ (q1.2 p (m1.free n)) (e1.trans (TX.new n)) (new_lst m1 n r1) mk_ref⟩⟩)

/-! ### truth -/
def truD (M : Mp) : D → Option Bool
  | .non => some false
  | .bl b => some b
  | .int i => some (i != 0)
  | .str x => if x.length ≤ sizeLine then some ((x.length : Int) != 0) else none
  | .tup xs => some (!xs.isEmpty)
  | .ref a => match M a with
    | some (.lst xs) => some (!xs.isEmpty)
    | some (.dic kvs) => some (!kvs.isEmpty)
    | _ => none
  | .ty _ => none
  | .rol _ _ => none
theorem repL_empty {K : PySem.W.Frag} {H : Hp} {ds : List D} {vs : List V} (h : RepL K H ds vs) : ds.isEmpty = vs.isEmpty := by
  cases ds with
  | nil => unfold RepL at h; subst h; rfl
  | cons d ds => unfold RepL at h; obtain ⟨v, r, rfl, _⟩ := h; rfl
theorem repK_empty {K : PySem.W.Frag} {H : Hp} {ds : List (Key × D)} {vs : List (Key × V)} (h : RepK K H ds vs) : ds.isEmpty = vs.isEmpty := by
  cases h <;> rfl
theorem tru_of {K : PySem.W.Frag} {H : Hp} {M : Mp} {d : D} {v : V} {k : Bool} (m : Sim K H M) (r : Rep K H d v) (e : truD M d = some k) : TruV K v H k := by
  cases d with
  | non => rw [rep_non r]; cases e; rfl
  | bl b => rw [rep_bl r]; cases e; rfl
  | int i => rw [rep_int r]; cases e; rfl
  | str x =>
    rw [rep_str r]
    have e' : (if x.length ≤ sizeLine then some ((x.length : Int) != 0) else none) = some k := e
    split at e'
    · rename_i h; cases e'; exact ⟨h, rfl⟩
    · cases e'
  | tup xs =>
    obtain ⟨a, vs, rfl, q, rr⟩ := rep_tup r
    cases e
    exact .inr (.inl ⟨vs, q, by rw [repL_empty rr]⟩)
  | ref a =>
    rw [rep_ref r]
    have e' : (match M a with
      | some (.lst xs) => some (!xs.isEmpty)
      | some (.dic kvs) => some (!kvs.isEmpty)
      | _ => none) = some k := e
    cases q : M a with
    | none => rw [q] at e'; cases e'
    | some o =>
      rw [q] at e'
      cases o with
      | lst xs =>
        obtain ⟨vs, z, rr⟩ := m a _ q
        cases e'
        exact .inl ⟨vs, SqL.of z, by rw [repL_empty rr]⟩
      | dic kvs =>
        obtain ⟨vs, z, rr⟩ := m a _ q
        cases e'
        exact .inr (.inr ⟨vs, z, by rw [repK_empty rr]⟩)
      | ins C fs => cases e'
  | ty n => cases e
  | rol a ns => cases e
def tt' (t : E') : T' := fun ρ M Q => t ρ M fun d M1 => ∃ k, truD M1 d = some k ∧ Q k M1
theorem pt_tru' (ha : PE' X a ta) (he : ∀ whole, isTrue a X.env whole = (do let v ← whole; standAt a.pos; holding [v] (truthy v))) : PT' X a (tt' ta) := (pt_truth ha he).weak (by
  rintro σ H Q ⟨ρ, M, Q', hs, hm, h, k⟩
  refine ⟨ρ, M, _, hs, hm, h, fun d M1 v H1 q1 e1 m1 r1 => ?_⟩
  obtain ⟨b, eb, q⟩ := q1
  exact ⟨b, tru_of m1 r1 eb, k _ _ _ q e1 m1⟩)
theorem pt_cmp' {op : CmpOp} {r : R2'} (ho : OpR' X (compareOp op) r) (ha : PE' X a ta) (hb : PE' X b tb) (hm : behindInMarks op b = false) (hbl : ∀ x y M Q, r x y M Q → r x y M fun z M' => (∃ k, z = .bl k) ∧ Q z M') :
    PT' X (.Compare a [op] [b] pos) (tt' (b2' r ta tb)) := (pt_cmpR ho ha hb hm).weak (by
  rintro σ H Q ⟨ρ, M, Q', hs, hm, h, k⟩
  refine ⟨ρ, M, _, hs, hm, h, fun d M1 v H1 q1 e1 m1 r1 => ⟨ρ, M1, _, hs.mono e1, m1, q1, fun e M2 u H2 q2 e2 m2 r2 => ⟨d, e, M2, _, r1.mono e2, r2, m2, hbl _ _ _ _ q2, fun z M' w H' q' e' m' r' => ?_⟩⟩⟩
  obtain ⟨⟨c, rfl⟩, c', e3, q'⟩ := q'
  cases e3
  exact ⟨c, rep_bl r', k _ _ _ q' ((e1.trans e2).trans e') m'⟩)
end
end Pw
set_option Elab.async false
set_option linter.all false
set_option maxRecDepth 100000
set_option maxHeartbeats 4000000
namespace Pw
open PySem PySem.Spec PyProof.Rows L2

/-! ### data for == -/
mutual
def py : D → PyData
  | .non => .none
  | .bl b => .bool b
  | .int i => .int i
  | .str x => .str x
  | .tup xs => .tuple (pyL xs)
  | .ref _ => .dict []
  | .ty _ => .dict []
  | .rol _ _ => .dict []
def pyL : List D → List PyData
  | [] => []
  | d :: ds => py d :: pyL ds
end
mutual
/-- data of some depth: no addresses -/
def fl : D → Nat → Bool
  | .non, _ => true
  | .bl _, _ => true
  | .int _, _ => true
  | .str x, _ => PyData.strOk x
  | .tup xs, n => match n with
    | 0 => false
    | m + 1 => flL xs m
  | .ref _, _ => false
  | .ty _, _ => false
  | .rol _ _, _ => false
def flL : List D → Nat → Bool
  | [], _ => true
  | d :: ds, n => fl d n && flL ds n
end
mutual
theorem fl_ok : ∀ (d : D) {n : Nat}, fl d n = true → (py d).canLay0 = true ∧ (py d).depth ≤ n
  | .non, n, _ => by simp [py, PyData.canLay0, PyData.depth]
  | .bl _, n, _ => by simp [py, PyData.canLay0, PyData.depth]
  | .int _, n, _ => by simp [py, PyData.canLay0, PyData.depth]
  | .str x, n, h => by simp only [fl] at h; simp [py, PyData.canLay0, PyData.depth, h]
  | .tup xs, n, h => by
    cases n with
    | zero => simp [fl] at h
    | succ m =>
      simp only [fl] at h
      have q := flL_ok xs h
      simp only [py, PyData.canLay0, PyData.depth]
      exact ⟨q.1, by omega⟩
  | .ref _, n, h => by simp [fl] at h
  | .ty _, n, h => by simp [fl] at h
  | .rol _ _, n, h => by simp [fl] at h
theorem flL_ok : ∀ (ds : List D) {n : Nat}, flL ds n = true → PyData.canLayAll0 (pyL ds) = true ∧ PyData.depthAll (pyL ds) ≤ n
  | [], n, _ => by simp [pyL, PyData.canLayAll0, PyData.depthAll]
  | d :: ds, n, h => by
    simp only [flL, Bool.and_eq_true] at h
    have a := fl_ok d h.1
    have b := flL_ok ds h.2
    simp only [pyL, PyData.canLayAll0, PyData.depthAll, Bool.and_eq_true]
    exact ⟨⟨a.1, b.1⟩, by omega⟩
end
theorem flL_of {ds : List D} {n : Nat} (h : ∀ d ∈ ds, fl d n = true) : flL ds n = true := by
  induction ds with
  | nil => rfl
  | cons d ds ih =>
    simp only [flL, Bool.and_eq_true]
    exact ⟨h d (by simp), ih fun e he => h e (by simp [he])⟩
theorem flL_mem {ds : List D} {n : Nat} (h : flL ds n = true) : ∀ d ∈ ds, fl d n = true := by
  induction ds with
  | nil => intro d hd; simp at hd
  | cons e ds ih =>
    simp only [flL, Bool.and_eq_true] at h
    intro d hd
    rcases List.mem_cons.mp hd with rfl | hd
    · exact h.1
    · exact ih h.2 d hd
theorem flL_map {α : Type} {f : α → D} {xs : List α} {n : Nat} (h : ∀ x, fl (f x) n = true) : flL (xs.map f) n = true := flL_of fun d hd => by
  obtain ⟨x, _, rfl⟩ := List.mem_map.mp hd
  exact h x
mutual
def eqD : D → D → Bool
  | .non, .non => true
  | .bl a, .bl b => a == b
  | .bl a, .int j => (if a then 1 else 0) == j
  | .int i, .bl b => i == (if b then 1 else 0)
  | .int i, .int j => i == j
  | .str x, .str y => x == y
  | .tup xs, .tup ys => eqL xs ys
  | .non, .bl _ | .non, .int _ | .non, .str _ | .non, .tup _ | .non, .ref _ | .non, .ty _ | .non, .rol _ _ => false
  | .bl _, .non | .bl _, .str _ | .bl _, .tup _ | .bl _, .ref _ | .bl _, .ty _ | .bl _, .rol _ _ => false
  | .int _, .non | .int _, .str _ | .int _, .tup _ | .int _, .ref _ | .int _, .ty _ | .int _, .rol _ _ => false
  | .str _, .non | .str _, .bl _ | .str _, .int _ | .str _, .tup _ | .str _, .ref _ | .str _, .ty _ | .str _, .rol _ _ => false
  | .tup _, .non | .tup _, .bl _ | .tup _, .int _ | .tup _, .str _ | .tup _, .ref _ | .tup _, .ty _ | .tup _, .rol _ _ => false
  | .ref _, _ => false
  | .ty _, _ => false
  | .rol _ _, _ => false
def eqL : List D → List D → Bool
  | [], [] => true
  | x :: xs, y :: ys => eqD x y && eqL xs ys
  | [], _ :: _ => false
  | _ :: _, [] => false
end
mutual
theorem eqv_py : ∀ (x y : D), PyData.eqv (py x) (py y) = eqD x y
  | .non, y => by cases y <;> simp [py, PyData.eqv, eqD]
  | .bl a, y => by cases y <;> simp [py, PyData.eqv, eqD]
  | .int a, y => by cases y <;> simp [py, PyData.eqv, eqD]
  | .str a, y => by cases y <;> simp [py, PyData.eqv, eqD]
  | .tup xs, .tup ys => by simp only [py, PyData.eqv, eqD]; exact eqv_pyL xs ys
  | .tup xs, .non => by simp [py, PyData.eqv, eqD]
  | .tup xs, .bl _ => by simp [py, PyData.eqv, eqD]
  | .tup xs, .int _ => by simp [py, PyData.eqv, eqD]
  | .tup xs, .str _ => by simp [py, PyData.eqv, eqD]
  | .tup xs, .ref _ => by simp [py, PyData.eqv, eqD]
  | .tup xs, .ty _ => by simp [py, PyData.eqv, eqD]
  | .tup xs, .rol _ _ => by simp [py, PyData.eqv, eqD]
  | .ref a, y => by cases y <;> simp [py, PyData.eqv, eqD]
  | .ty a, y => by cases y <;> simp [py, PyData.eqv, eqD]
  | .rol a _, y => by cases y <;> simp [py, PyData.eqv, eqD]
theorem eqv_pyL : ∀ (xs ys : List D), PyData.eqvAll (pyL xs) (pyL ys) = eqL xs ys
  | [], [] => by simp [pyL, PyData.eqvAll, eqL]
  | [], _ :: _ => by simp [pyL, PyData.eqvAll, eqL]
  | _ :: _, [] => by simp [pyL, PyData.eqvAll, eqL]
  | x :: xs, y :: ys => by simp only [pyL, PyData.eqvAll, eqL]; rw [eqv_py x y, eqv_pyL xs ys]
end
mutual
theorem eqD_rfl : ∀ (x : D) {n : Nat}, fl x n = true → eqD x x = true
  | .non, _, _ => rfl
  | .bl b, _, _ => by simp [eqD]
  | .int b, _, _ => by simp [eqD]
  | .str b, _, _ => by simp [eqD]
  | .tup xs, n, h => by
    cases n with
    | zero => simp [fl] at h
    | succ m => simp only [fl] at h; simp only [eqD]; exact eqL_rfl xs h
  | .ref _, _, h => by simp [fl] at h
  | .ty _, _, h => by simp [fl] at h
  | .rol _ _, _, h => by simp [fl] at h
theorem eqL_rfl : ∀ (x : List D) {n : Nat}, flL x n = true → eqL x x = true
  | [], _, _ => rfl
  | d :: ds, n, h => by
    simp only [flL, Bool.and_eq_true] at h
    simp only [eqL, Bool.and_eq_true]
    exact ⟨eqD_rfl d h.1, eqL_rfl ds h.2⟩
end
mutual
/-- no bools within -/
def nob : D → Bool
  | .bl _ => false
  | .tup xs => nobL xs
  | _ => true
def nobL : List D → Bool
  | [] => true
  | d :: ds => nob d && nobL ds
end
mutual
theorem eqD_eq : ∀ (x y : D), nob x = true → nob y = true → eqD x y = true → x = y
  | .non, y, _, hy, h => by cases y <;> simp_all [eqD, nob]
  | .bl _, y, hx, _, h => by simp [nob] at hx
  | .int i, y, _, hy, h => by cases y <;> simp_all [eqD, nob]
  | .str i, y, _, hy, h => by cases y <;> simp_all [eqD, nob]
  | .tup xs, .tup ys, hx, hy, h => by
    simp only [eqD, nob] at hx hy h
    rw [eqL_eq xs ys hx hy h]
  | .tup xs, .non, _, _, h => by simp [eqD] at h
  | .tup xs, .bl _, _, _, h => by simp [eqD] at h
  | .tup xs, .int _, _, _, h => by simp [eqD] at h
  | .tup xs, .str _, _, _, h => by simp [eqD] at h
  | .tup xs, .ref _, _, _, h => by simp [eqD] at h
  | .tup xs, .ty _, _, _, h => by simp [eqD] at h
  | .tup xs, .rol _ _, _, _, h => by simp [eqD] at h
  | .ref _, y, _, _, h => by simp [eqD] at h
  | .ty _, y, _, _, h => by simp [eqD] at h
  | .rol _ _, y, _, _, h => by simp [eqD] at h
theorem eqL_eq : ∀ (xs ys : List D), nobL xs = true → nobL ys = true → eqL xs ys = true → xs = ys
  | [], [], _, _, _ => rfl
  | [], _ :: _, _, _, h => by simp [eqL] at h
  | _ :: _, [], _, _, h => by simp [eqL] at h
  | x :: xs, y :: ys, hx, hy, h => by
    simp only [nobL, Bool.and_eq_true, eqL] at hx hy h
    rw [eqD_eq x y hx.1 hy.1 h.1, eqL_eq xs ys hx.2 hy.2 h.2]
end
mutual
theorem rep_dp {K : PySem.W.Frag} {H : Hp} : ∀ (d : D) {v : V} {n : Nat}, Rep K H d v → fl d n = true → Dp K H v (py d)
  | .non, v, n, r, _ => by rw [rep_non r]; exact .non
  | .bl b, v, n, r, _ => by rw [rep_bl r]; exact .bl b
  | .int i, v, n, r, _ => by rw [rep_int r]; exact .int i
  | .str x, v, n, r, _ => by rw [rep_str r]; exact .str x
  | .tup ds, v, n, r, h => by
    cases n with
    | zero => simp [fl] at h
    | succ m =>
      simp only [fl] at h
      obtain ⟨a, xs, rfl, q, rr⟩ := rep_tup r
      exact .tup q (repL_dp ds rr h)
  | .ref _, v, n, _, h => by simp [fl] at h
  | .ty _, v, n, _, h => by simp [fl] at h
  | .rol _ _, v, n, _, h => by simp [fl] at h
theorem repL_dp {K : PySem.W.Frag} {H : Hp} : ∀ (ds : List D) {vs : List V} {n : Nat}, RepL K H ds vs → flL ds n = true → DpAll K H vs (pyL ds)
  | [], _, _, r, _ => by unfold RepL at r; subst r; exact .nil
  | d :: ds, _, n, r, h => by
    unfold RepL at r
    obtain ⟨v, t, rfl, q, rr⟩ := r
    simp only [flL, Bool.and_eq_true] at h
    exact .cons (rep_dp d q h.1) (repL_dp ds rr h.2)
end
abbrev dep : Nat := 12
theorem fl_shaped {d : D} (h : fl d dep = true) : SeqAt.shaped (py d) = true := by
  have q := fl_ok d h
  unfold SeqAt.shaped
  rw [q.1, Bool.true_and]
  exact decide_eq_true (by have := q.2; simp only [dep] at this; omega)
theorem flL_shaped {ds : List D} (h : flL ds dep = true) : SeqAt.shaped (.list (pyL ds)) = true := by
  have q := flL_ok ds h
  unfold SeqAt.shaped
  simp only [PyData.canLay0, PyData.depth]
  rw [q.1, Bool.true_and]
  exact decide_eq_true (by have := q.2; simp only [dep] at this; omega)
theorem flL_shapedT {ds : List D} (h : flL ds dep = true) : SeqAt.shaped (.tuple (pyL ds)) = true := by
  have q := flL_ok ds h
  unfold SeqAt.shaped
  simp only [PyData.canLay0, PyData.depth]
  rw [q.1, Bool.true_and]
  exact decide_eq_true (by have := q.2; simp only [dep] at this; omega)
/-- scalars that == takes without a look at depth -/
def sca : D → D → Bool
  | .non, .non => true | .non, .int _ => true | .int _, .non => true | .non, .bl _ => true | .bl _, .non => true | .non, .str _ => true | .str _, .non => true
  | .int _, .int _ => true | .bl _, .bl _ => true | .str _, .str _ => true
  | .int _, .str _ => true | .str _, .int _ => true | .bl _, .str _ => true | .str _, .bl _ => true
  | _, _ => false
theorem sca_scal {K : PySem.W.Frag} {H : Hp} {x y : D} {v u : V} (h : sca x y = true) (rx : Rep K H x v) (ry : Rep K H y u) : scal v u = true ∧ decide (v = u) = eqD x y := by
  cases x <;> cases y <;> first
    | (exact absurd (show false = true from h) Bool.false_ne_true)
    | (simp only [Rep] at rx ry; subst rx ry; refine ⟨rfl, ?_⟩; simp [eqD]; done)
    | (simp only [Rep] at rx ry; subst rx ry; refine ⟨rfl, ?_⟩; rw [Bool.eq_iff_iff]; simp [eqD])
def rEq' (neg : Bool) : R2' := fun x y M Q => match x, y with
  | .ref a, .ref b => ∃ xs ys, M a = some (.lst xs) ∧ M b = some (.lst ys) ∧ flL xs dep = true ∧ flL ys dep = true ∧ Q (.bl (neg ^^ eqL xs ys)) M
  | x, y => (sca x y = true ∨ (fl x dep = true ∧ fl y dep = true)) ∧ Q (.bl (neg ^^ eqD x y)) M
section
variable {X : Cx}
theorem req_cases {neg : Bool} {x y : D} {M : Mp} {Q : Q1} (h : rEq' neg x y M Q) :
    (∃ a b xs ys, x = .ref a ∧ y = .ref b ∧ M a = some (.lst xs) ∧ M b = some (.lst ys) ∧ flL xs dep = true ∧ flL ys dep = true ∧ Q (.bl (neg ^^ eqL xs ys)) M) ∨
    ((sca x y = true ∨ (fl x dep = true ∧ fl y dep = true)) ∧ Q (.bl (neg ^^ eqD x y)) M) := by
  unfold rEq' at h
  split at h
  · obtain ⟨xs, ys, h⟩ := h
    exact .inl ⟨_, _, xs, ys, rfl, rfl, h⟩
  · exact .inr h
theorem op_eq' (hu : X.A.units + 64 < cLine) : OpR' X (compareOp .Eq) (rEq' false) := by
  intro pins s σ H x y v u Q I rx ry h
  obtain ⟨d, e, M, Q', hd, he, m, h, k⟩ := h
  rcases req_cases h with ⟨a, b, xs, ys, rfl, rfl, ma, mb, fx, fy, q⟩ | ⟨hc | ⟨fx, fy⟩, q⟩
  · rw [rep_ref hd] at rx; rw [rep_ref he] at ry
    obtain ⟨vx, hx, ex⟩ := m a _ ma
    obtain ⟨vy, hy, ey⟩ := m b _ mb
    refine op_eqD hu pins s σ H _ _ v u Q I rx ry ⟨.list (pyL xs), .list (pyL ys), .lst (SqL.of hx) (repL_dp xs ex fx), .lst (SqL.of hy) (repL_dp ys ey fy), flL_shaped fx, flL_shaped fy, ?_⟩
    have e : PyData.eqv (.list (pyL xs)) (.list (pyL ys)) = eqL xs ys := by simp only [PyData.eqv]; exact eqv_pyL xs ys
    rw [e]
    rw [Bool.false_xor] at q
    exact k _ _ _ _ q TX.refl m mk_bl
  · obtain ⟨h1, h2⟩ := sca_scal hc hd he
    refine op_eq pins s σ H _ _ v u Q I rx ry ⟨h1, ?_⟩
    rw [h2]
    rw [Bool.false_xor] at q
    exact k _ _ _ _ q TX.refl m mk_bl
  · refine op_eqD hu pins s σ H _ _ v u Q I rx ry ⟨py d, py e, rep_dp d hd fx, rep_dp e he fy, fl_shaped fx, fl_shaped fy, ?_⟩
    rw [eqv_py]
    rw [Bool.false_xor] at q
    exact k _ _ _ _ q TX.refl m mk_bl
theorem op_ne' (hu : X.A.units + 64 < cLine) : OpR' X (compareOp .NotEq) (rEq' true) := by
  intro pins s σ H x y v u Q I rx ry h
  obtain ⟨d, e, M, Q', hd, he, m, h, k⟩ := h
  rcases req_cases h with ⟨a, b, xs, ys, rfl, rfl, ma, mb, fx, fy, q⟩ | ⟨hc | ⟨fx, fy⟩, q⟩
  · rw [rep_ref hd] at rx; rw [rep_ref he] at ry
    obtain ⟨vx, hx, ex⟩ := m a _ ma
    obtain ⟨vy, hy, ey⟩ := m b _ mb
    refine op_neD hu pins s σ H _ _ v u Q I rx ry ⟨.list (pyL xs), .list (pyL ys), .lst (SqL.of hx) (repL_dp xs ex fx), .lst (SqL.of hy) (repL_dp ys ey fy), flL_shaped fx, flL_shaped fy, ?_⟩
    have e : PyData.eqv (.list (pyL xs)) (.list (pyL ys)) = eqL xs ys := by simp only [PyData.eqv]; exact eqv_pyL xs ys
    rw [e]
    rw [Bool.true_xor] at q
    exact k _ _ _ _ q TX.refl m mk_bl
  · obtain ⟨h1, h2⟩ := sca_scal hc hd he
    refine op_ne pins s σ H _ _ v u Q I rx ry ⟨h1, ?_⟩
    rw [h2]
    rw [Bool.true_xor] at q
    exact k _ _ _ _ q TX.refl m mk_bl
  · refine op_neD hu pins s σ H _ _ v u Q I rx ry ⟨py d, py e, rep_dp d hd fx, rep_dp e he fy, fl_shaped fx, fl_shaped fy, ?_⟩
    rw [eqv_py]
    rw [Bool.true_xor] at q
    exact k _ _ _ _ q TX.refl m mk_bl
end

/-! ### arithmetic and the like -/
def rAdd' : R2' := fun x y M Q => match x, y with
  | .int i, .int j => Q (.int (i + j)) M
  | .str a, .str b => a.length + b.length ≤ sizeLine ∧ Q (.str (a ++ b)) M
  | .tup xs, .tup ys => xs.length + ys.length ≤ sizeLine ∧ Q (.tup (xs ++ ys)) M
  | .ref a, .ref b => ∃ xs ys, M a = some (.lst xs) ∧ M b = some (.lst ys) ∧ xs.length + ys.length ≤ sizeLine ∧ ∀ p, M p = none → Q (.ref p) (put M p (.lst (xs ++ ys)))
  | _, _ => False
section
variable {X : Cx}
theorem op_add' : OpR' X (binaryOp .Add) rAdd' := by
  intro pins s σ H x y v u Q I rx ry h
  obtain ⟨d, e, M, Q', hd, he, m, h, k⟩ := h
  unfold rAdd' at h
  split at h
  · rename_i i j
    exact op_add pins s σ H x y v u Q I rx ry ⟨i, j, rep_int hd, rep_int he, k _ _ _ _ h TX.refl m mk_int⟩
  · rename_i a b
    exact op_add_str pins s σ H x y v u Q I rx ry ⟨a, b, rep_str hd, rep_str he, h.1, k _ _ _ _ h.2 TX.refl m mk_str⟩
  · rename_i xs ys
    obtain ⟨a, vx, rfl, qx, rrx⟩ := rep_tup hd
    obtain ⟨b, vy, rfl, qy, rry⟩ := rep_tup he
    refine op_catA pins s σ H _ _ v u Q I rx ry ⟨a, b, vx, vy, rfl, rfl, qx, qy, by rw [rrx.len, rry.len]; exact h.1, fun ex => ?_, fun _ ey => ?_, fun _ _ p n => ?_⟩
    · subst ex
      have : xs = [] := List.eq_nil_of_length_eq_zero (by rw [← rrx.len]; rfl)
      subst this
      exact k _ _ _ _ h.2 TX.refl m (mk_tup qy (by simpa using rry))
    · subst ey
      have : ys = [] := List.eq_nil_of_length_eq_zero (by rw [← rry.len]; rfl)
      subst this
      exact k _ _ _ _ h.2 TX.refl m (mk_tup qx (by simpa using rrx))
    · exact k _ _ _ _ h.2 (TX.new n) (m.new n) (new_tup n (rrx.append rry))
  · rename_i a b
    obtain ⟨xs, ys, ma, mb, hz, h⟩ := h
    obtain ⟨vx, hx, ex⟩ := m a _ ma
    obtain ⟨vy, hy, ey⟩ := m b _ mb
    refine op_cat pins s σ H x y v u Q I rx ry ⟨a, b, vx, vy, rep_ref hd, rep_ref he, hx, hy, by rw [ex.len, ey.len]; exact hz, fun p n => ?_⟩
    exact k _ _ _ _ (h p (m.free n)) (TX.new n) (new_lst m n (ex.append ey)) mk_ref
  · exact h.elim
/-- two ints -/
def rInt (C : Int → Int → Prop) (g : Int → Int → D) : R2' := fun x y M Q => match x, y with
  | .int i, .int j => C i j ∧ Q (g i j) M
  | _, _ => False
theorem rint_of {C : Int → Int → Prop} {g : Int → Int → D} {x y : D} {M : Mp} {Q : Q1} (h : rInt C g x y M Q) : ∃ i j, x = .int i ∧ y = .int j ∧ C i j ∧ Q (g i j) M := by
  unfold rInt at h
  split at h
  · exact ⟨_, _, rfl, rfl, h⟩
  · exact h.elim
theorem op_int {f : Value → Value → Sem Value} {C : Int → Int → Prop} {g : Int → Int → V} {g' : Int → Int → D} (h0 : OpR X f (rI C g)) (hg : ∀ H i j, Rep X.K H (g' i j) (g i j)) : OpR' X f (rInt C g') := by
  intro pins s σ H x y v u Q I rx ry h
  obtain ⟨d, e, M, Q', hd, he, m, h, k⟩ := h
  obtain ⟨i, j, rfl, rfl, hc, q⟩ := rint_of h
  exact h0 pins s σ H x y v u Q I rx ry ⟨i, j, rep_int hd, rep_int he, hc, k _ _ _ _ q TX.refl m (hg H i j)⟩
theorem rI_of {f : Value → Value → Sem Value} {g : Int → Int → V} (h : OpR X f (rI0 g)) : OpR X f (rI (fun _ _ => True) g) := L2.OpR.weak h fun x y H Q ⟨i, j, a, b, _, q⟩ => ⟨i, j, a, b, q⟩
def rSub' : R2' := rInt (fun _ _ => True) fun i j => .int (i - j)
def rDiv' : R2' := rInt CDiv fun i j => .int (i / j)
def rMod' : R2' := rInt (fun _ j => 0 < j) fun i j => .int (i % j)
def rPow' : R2' := rInt CPow fun i j => .int (i ^ j.toNat)
theorem op_sub' : OpR' X (binaryOp .Sub) rSub' := op_int (rI_of op_sub) fun _ _ _ => mk_int
theorem op_div' : OpR' X (binaryOp .FloorDiv) rDiv' := op_int op_fdiv fun _ _ _ => mk_int
theorem op_mod' : OpR' X (binaryOp .Mod) rMod' := op_int op_mod fun _ _ _ => mk_int
theorem op_pow' : OpR' X (binaryOp .Pow) rPow' := op_int op_pow fun _ _ _ => mk_int
def rLt' : R2' := rInt (fun _ _ => True) fun i j => .bl (decide (i < j))
def rLe' : R2' := rInt (fun _ _ => True) fun i j => .bl (decide (i ≤ j))
def rGt' : R2' := rInt (fun _ _ => True) fun i j => .bl (decide (j < i))
def rGe' : R2' := rInt (fun _ _ => True) fun i j => .bl (decide (j ≤ i))
theorem op_lt' : OpR' X (compareOp .Lt) rLt' := op_int (rI_of op_lt) fun _ _ _ => mk_bl
theorem op_le' : OpR' X (compareOp .LtE) rLe' := op_int (rI_of op_le) fun _ _ _ => mk_bl
theorem op_gt' : OpR' X (compareOp .Gt) rGt' := op_int (rI_of op_gt) fun _ _ _ => mk_bl
theorem op_ge' : OpR' X (compareOp .GtE) rGe' := op_int (rI_of op_ge) fun _ _ _ => mk_bl
def strRep (x : Str) (n : Nat) : Str := ⟨(List.replicate n x.cps.toList).flatten.toArray⟩
theorem rep_foldl (a : Array Nat) : ∀ (n : Nat) (acc : Array Nat), (List.replicate n a).foldl (· ++ ·) acc = acc ++ (List.replicate n a.toList).flatten.toArray
  | 0, acc => by simp
  | n + 1, acc => by
    rw [List.replicate_succ, List.foldl_cons, rep_foldl a n, List.replicate_succ, List.flatten_cons, Array.append_assoc]
    congr 1
    apply Array.ext'
    simp
theorem op_mulS {X : Cx} : OpR X (binaryOp .Mult) (fun x y H Q => ∃ (a : Str) (k : Int), x = .str a ∧ y = .int k ∧ -(2 ^ 63) ≤ k ∧ k < 2 ^ 62 ∧ a.length * k.toNat ≤ 1000000 ∧ Q (.str (strRep a k.toNat)) H) := by
  intro pins s σ H x y v u Q I rx ry h
  obtain ⟨a, k, rfl, rfl, h1, h2, h3, q⟩ := h
  obtain ⟨t, rfl⟩ := rx
  obtain ⟨t2, rfl⟩ := ry
  refine PySem.P.mul_str (by rw [decide_eq_false (by omega), decide_eq_false (by omega)]; rfl) (fun h4 h5 h6 => ?_) (fun h4 h5 => ?_) ?_
  · have h7 : (a.length : Int) * k ≤ 1000000 := by
      have e : (k.toNat : Int) = k := Int.toNat_of_nonneg (by omega)
      have h9 := Int.ofNat_le.mpr h3
      rw [Int.natCast_mul, e] at h9
      exact h9
    have h8 : (a.length : Int) ≤ (2 ^ 63 - 1) / k := by
      rw [Int.le_ediv_iff_mul_le (by omega)]
      exact Int.le_trans h7 (by decide)
    omega
  · exact decide_eq_false (by have := sizeLine_eq; omega)
  · by_cases h4 : k < 1
    · rw [if_pos h4]
      have e : strRep a k.toNat = Str.empty := by
        have : k.toNat = 0 := by omega
        rw [this]; rfl
      rw [e] at q
      exact ⟨by decide, .str _, H, I.tok _, ⟨_, rfl⟩, q⟩
    · rw [if_neg h4]
      by_cases h5 : (k == 1 || a.length == 0) = true
      · rw [if_pos h5]
        have e : strRep a k.toNat = a := by
          unfold strRep
          rcases Bool.or_eq_true_iff.mp h5 with h6 | h6
          · have : k = 1 := eq_of_beq h6
            subst this
            simp
          · have h7 : a.cps.size = 0 := eq_of_beq h6
            have h8 : a.cps = #[] := Array.eq_empty_of_size_eq_zero h7
            cases a with
            | mk c => simp only at h8; subst h8; simp
        rw [e] at q
        exact ⟨.str a, H, I, ⟨t, rfl⟩, q⟩
      · rw [if_neg h5, rep_foldl]
        have e : (⟨#[] ++ (List.replicate k.toNat a.cps.toList).flatten.toArray⟩ : Str) = strRep a k.toNat := by unfold strRep; simp
        rw [e]
        have hl : (strRep a k.toNat).length ≤ 1000000 := by
          show (List.replicate k.toNat a.cps.toList).flatten.toArray.size ≤ _
          rw [List.size_toArray, PyProof.Rows.lm_len_rep_flat, Array.length_toList, Nat.mul_comm]
          exact h3
        exact ⟨by have := sizeLine_eq; omega, .str _, H, I.tok _, ⟨_, rfl⟩, q⟩
section
open AutoSeq1 (wpAny_loadPart')
theorem tuple_mul1 (l : Addr) (items : Array Value) (n : Nat) (dd : Option Addr) (sl : Array (Option Value)) (x : Int) (u : Tok) (c0 : (decide (x < -(2 ^ 63)) || decide (x ≥ 2 ^ 63)) = false) (c1 : (items.isEmpty || x == 1) = true) :
    Meets (Builtin.«tuple.__mul__» ⟨[.ref l, .int x u], []⟩) (fun _ R s => s.heap.get? l = some { cls := .type "tuple", dict := dd, data := .seq items n, slots := sl } ∧
      R (.ok (.ret (Value.ref l))) s) :=
  .of_wp fun prog w A R s h => by
    obtain ⟨hp, g, d, tk, os⟩ := s
    obtain ⟨hl, h⟩ := h
    have f1 := AutoSeq1.idx_int
    wp_walk using wpAny_loadPart' hl
    refine wpAny_ite_false (decide_eq_false (by rw [c0]; exact Bool.false_ne_true)) ?_
    wp_walk using wpAny_loadPart' hl
    exact ⟨_, rfl, h⟩
theorem tuple_mul0 (l : Addr) (items : Array Value) (n : Nat) (dd : Option Addr) (sl : Array (Option Value)) (x : Int) (u : Tok) (c0 : (decide (x < -(2 ^ 63)) || decide (x ≥ 2 ^ 63)) = false) (c1 : (items.isEmpty || x == 1) = false) (c2 : (decide (x ≤ 0) || items.isEmpty) = true) :
    Meets (Builtin.«tuple.__mul__» ⟨[.ref l, .int x u], []⟩) (fun _ R s => s.heap.get? l = some { cls := .type "tuple", dict := dd, data := .seq items n, slots := sl } ∧
      R (.ok (.ret (Value.ref s.heap.objs.size))) { s with heap := s.heap.push { cls := Value.type "tuple", data := Data.seq #[] }, toks := s.toks }) :=
  .of_wp fun prog w A R s h => by
    obtain ⟨hp, g, d, tk, os⟩ := s
    obtain ⟨hl, h⟩ := h
    have f1 := AutoSeq1.idx_int
    wp_walk using wpAny_loadPart' hl
    refine wpAny_ite_false (decide_eq_false (by rw [c0]; exact Bool.false_ne_true)) ?_
    wp_walk using wpAny_loadPart' hl
    exact ⟨_, rfl, h⟩
end
/-- a tuple times a whole number -/
theorem op_mulT {X : Cx} : OpR X (binaryOp .Mult) (fun x y H Q => ∃ l k xs, x = .ref l ∧ y = .int k ∧ SqT X.K H l xs ∧ -1000 ≤ k ∧ k ≤ 1000 ∧ xs.length ≤ 1000 ∧
    ((k = 1 ∨ xs = []) → Q (.ref l) H) ∧ (¬ (k = 1 ∨ xs = []) → ∀ p, H p = none → Q (.ref p) (upd H p (.tup (List.replicate k.toNat xs).flatten)))) := by
  intro pins s σ H x y v u Q I rx ry h
  obtain ⟨l, k, xs, rfl, rfl, hT, h1, h2, h3, q1, q2⟩ := h
  by_cases h2k : 2 ≤ k ∧ xs ≠ []
  · exact op_repT pins s σ H _ _ v u Q I rx ry ⟨l, k, xs, rfl, rfl, hT, h2k.2, h2k.1, h2, h3, q2 (by rintro (h | h); omega; exact h2k.2 h)⟩
  cases rx
  obtain ⟨t, rfl⟩ := ry
  obtain ⟨its, r, ⟨⟨cls, dd, data, sl⟩, ho, hc, n, hd⟩, hs⟩ := I.tuple hT
  simp only at hc hd
  subst hc hd
  have hle : its.length = xs.length := r.length.symm
  have c0 : (decide (k < -(2 ^ 63)) || decide (k ≥ 2 ^ 63)) = false := by
    rw [decide_eq_false (by omega), decide_eq_false (by omega)] <;> rfl
  have he : its.toArray.isEmpty = decide (xs = []) := by
    cases its with
    | nil =>
      have : xs = [] := List.eq_nil_of_length_eq_zero hle.symm
      simp [this]
    | cons a b =>
      have : xs ≠ [] := by rintro rfl; simp at hle
      simp [this]
  by_cases hq : k = 1 ∨ xs = []
  · have c1 : (its.toArray.isEmpty || k == 1) = true := by
      rw [he]
      rcases hq with h | h <;> simp [h]
    refine wpAny_binaryOp_repeat_ref (T := "tuple") (U := "int") (by decide) ⟨_, ho, rfl⟩ (fun s' => typeIs_int s' k t) noFill_tuple_mul F.fills_int_mul F.slot_int_rmul repeat_tuple F.slot_int_index.lookup
      (call_meets F.slot_int_rmul (typeIs_int s k t) F.entry_int_rmul (F.args_int_rmul_2 _ _) (int_rmul_tuple k t l its.toArray n dd sl)
        ⟨ho, rfl, ⟨_, ho, rfl⟩, call_meets F.slot_tuple_mul ⟨_, ho, rfl⟩ F.entry_tuple_mul (F.args_tuple_mul_2 _ _) (tuple_mul1 l its.toArray n dd sl k t c0 c1) ⟨ho, ?_⟩⟩)
    exact ⟨.ref l, H, I, rfl, q1 hq⟩
  · rw [not_or] at hq
    have hk0 : k ≤ 0 := by
      have : ¬ 2 ≤ k := fun h => h2k ⟨h, hq.2⟩
      omega
    have c1 : (its.toArray.isEmpty || k == 1) = false := by
      rw [he, decide_eq_false hq.2, Bool.false_or]
      exact beq_eq_false_iff_ne.mpr hq.1
    have c2 : (decide (k ≤ 0) || its.toArray.isEmpty) = true := by rw [decide_eq_true hk0]; rfl
    refine wpAny_binaryOp_repeat_ref (T := "tuple") (U := "int") (by decide) ⟨_, ho, rfl⟩ (fun s' => typeIs_int s' k t) noFill_tuple_mul F.fills_int_mul F.slot_int_rmul repeat_tuple F.slot_int_index.lookup
      (call_meets F.slot_int_rmul (typeIs_int s k t) F.entry_int_rmul (F.args_int_rmul_2 _ _) (int_rmul_tuple k t l its.toArray n dd sl)
        ⟨ho, rfl, ⟨_, ho, rfl⟩, call_meets F.slot_tuple_mul ⟨_, ho, rfl⟩ F.entry_tuple_mul (F.args_tuple_mul_2 _ _) (tuple_mul0 l its.toArray n dd sl k t c0 c1 c2) ⟨ho, ?_⟩⟩)
    have e : (List.replicate k.toNat xs).flatten = [] := by rw [show k.toNat = 0 by omega]; rfl
    have q := q2 (by rintro (h | h); exact hq.1 h; exact hq.2 h)
    rw [e] at q
    refine ⟨.ref s.heap.objs.size, _, I.laid (t' := s.toks) (o := .tup []) (fun b ob z => Heap.get?_push_of_some _ z) (Nat.le_refl _) ?_, rfl, q _ (I.hok.fresh (Nat.le_refl _))⟩
    exact ⟨by decide, [], .nil, IsTup.new _ _⟩
/-- * : ints; a list, a tuple, times an int -/
def rMul' : R2' := fun x y M Q => match x, y with
  | .int i, .int j => CMul i j ∧ Q (.int (i * j)) M
  | .ref a, .int k => ∃ xs, M a = some (.lst xs) ∧ -(2 ^ 63) ≤ k ∧ k < 2 ^ 63 ∧ xs.length * k.toNat ≤ sizeLine ∧ ∀ p, M p = none → Q (.ref p) (put M p (.lst (List.replicate k.toNat xs).flatten))
  | .str a, .int k => -(2 ^ 63) ≤ k ∧ k < 2 ^ 62 ∧ a.length * k.toNat ≤ 1000000 ∧ Q (.str (strRep a k.toNat)) M
  | .tup xs, .int k => -1000 ≤ k ∧ k ≤ 1000 ∧ xs.length ≤ 1000 ∧ Q (.tup (List.replicate k.toNat xs).flatten) M
  | _, _ => False
theorem RepL.rep {K : PySem.W.Frag} {H : Hp} {ds : List D} {vs : List V} (h : RepL K H ds vs) : ∀ k : Nat, RepL K H (List.replicate k ds).flatten (List.replicate k vs).flatten
  | 0 => repL_nil
  | k + 1 => by
    rw [List.replicate_succ, List.replicate_succ, List.flatten_cons, List.flatten_cons]
    exact h.append (RepL.rep h k)
theorem op_mul' : OpR' X (binaryOp .Mult) rMul' := by
  intro pins s σ H x y v u Q I rx ry h
  obtain ⟨d, e, M, Q', hd, he, m, h, k⟩ := h
  unfold rMul' at h
  split at h
  · rename_i i j
    exact op_mul pins s σ H x y v u Q I rx ry ⟨i, j, rep_int hd, rep_int he, h.1, k _ _ _ _ h.2 TX.refl m mk_int⟩
  · rename_i a j
    obtain ⟨xs, ma, h1, h2, h3, h⟩ := h
    obtain ⟨vx, hx, ex⟩ := m a _ ma
    exact op_rep pins s σ H x y v u Q I rx ry ⟨a, j, vx, rep_ref hd, rep_int he, hx, h1, h2, by rw [ex.len]; exact h3, fun p n => k _ _ _ _ (h p (m.free n)) (TX.new n) (new_lst m n (ex.rep _)) mk_ref⟩
  · rename_i a j
    obtain ⟨h1, h2, h3, h⟩ := h
    exact op_mulS pins s σ H x y v u Q I rx ry ⟨a, j, rep_str hd, rep_int he, h1, h2, h3, k _ _ _ _ h TX.refl m mk_str⟩
  · rename_i xs j
    obtain ⟨h1, h2, h3, h⟩ := h
    obtain ⟨a, vs, rfl, hq, rr⟩ := rep_tup hd
    refine op_mulT pins s σ H _ y v u Q I rx ry ⟨a, j, vs, rfl, rep_int he, hq, h1, h2, by rw [rr.len]; exact h3, fun hc => ?_, fun _ p n => k _ _ _ _ h (TX.new n) (m.new n) (new_tup n (rr.rep _))⟩
    have e : (List.replicate j.toNat xs).flatten = xs := by
      rcases hc with rfl | rfl
      · simp
      · have : xs = [] := List.eq_nil_of_length_eq_zero (by rw [← rr.len]; rfl)
        rw [this]; simp
    rw [e] at h
    exact k _ _ _ _ h TX.refl m hd
  · exact h.elim
/-- is, is not: None; True, False -/
def isN : D → Bool
  | .non => true
  | _ => false
def rIs' (neg : Bool) : R2' := fun x y M Q => match x, y with
  | x, .non => Q (.bl (neg ^^ isN x)) M
  | .bl a, .bl b => Q (.bl (neg ^^ (a == b))) M
  | .non, .bl _ => Q (.bl (neg ^^ false)) M
  | _, _ => False
theorem rep_isN {K : PySem.W.Frag} {H : Hp} {x : D} {v : V} (h : Rep K H x v) : decide (v = .non) = isN x := by
  cases x <;> first
    | (simp only [Rep] at h; subst h; simp [isN]; done)
    | (obtain ⟨a, xs, rfl, _⟩ := rep_tup h; simp [isN]; done)
    | (obtain ⟨rfl, _⟩ := rep_rol h; simp [isN])
theorem op_is' : OpR' X (compareOp .Is) (rIs' false) := by
  intro pins s σ H x y v u Q I rx ry h
  obtain ⟨d, e, M, Q', hd, he, m, h, k⟩ := h
  unfold rIs' at h
  split at h
  · rw [Bool.false_xor] at h
    refine op_isN pins s σ H x y v u Q I rx ry ⟨rep_non he, ?_⟩
    rw [rep_isN hd]
    exact k _ _ _ _ h TX.refl m mk_bl
  · rename_i a b
    rw [Bool.false_xor] at h
    rw [rep_bl hd] at rx; rw [rep_bl he] at ry
    cases rx; cases ry
    exact is_bool ⟨.bl (a == b), H, I, rfl, k _ _ _ _ h TX.refl m mk_bl⟩
  · rename_i b
    rw [rep_non hd] at rx; rw [rep_bl he] at ry
    cases rx; cases ry
    exact wpAny_is_plain rfl ⟨.bl false, H, I, rfl, k _ _ _ _ h TX.refl m mk_bl⟩
  · exact h.elim
theorem op_isnot' : OpR' X (compareOp .IsNot) (rIs' true) := by
  intro pins s σ H x y v u Q I rx ry h
  obtain ⟨d, e, M, Q', hd, he, m, h, k⟩ := h
  unfold rIs' at h
  split at h
  · rw [Bool.true_xor] at h
    refine op_notN pins s σ H x y v u Q I rx ry ⟨rep_non he, ?_⟩
    rw [rep_isN hd]
    exact k _ _ _ _ h TX.refl m mk_bl
  · rename_i a b
    rw [Bool.true_xor] at h
    rw [rep_bl hd] at rx; rw [rep_bl he] at ry
    cases rx; cases ry
    exact isnot_bool ⟨.bl (a != b), H, I, rfl, k _ _ _ _ h TX.refl m mk_bl⟩
  · rename_i b
    rw [rep_non hd] at rx; rw [rep_bl he] at ry
    cases rx; cases ry
    exact wpAny_isNot_plain rfl ⟨.bl true, H, I, rfl, k _ _ _ _ h TX.refl m mk_bl⟩
  · exact h.elim

/-! ### in -/
def rIn' (neg : Bool) : R2' := fun x y M Q => match y with
  | .tup ys => fl x dep = true ∧ flL ys dep = true ∧ Q (.bl (neg ^^ ys.any fun z => eqD z x)) M
  | .ref a => (∃ ys, M a = some (.lst ys) ∧ fl x dep = true ∧ flL ys dep = true ∧ Q (.bl (neg ^^ ys.any fun z => eqD z x)) M)
  | .str t => ∃ c : Nat, x = .str ⟨#[c]⟩ ∧ Q (.bl (neg ^^ decide (c ∈ t.cps.toList))) M
  | _ => False
theorem any_py {x : D} : ∀ (ys : List D), ((pyL ys).any fun z => PyData.eqv z (py x)) = ys.any fun z => eqD z x
  | [] => rfl
  | y :: ys => by
    simp only [pyL, List.any_cons]
    rw [eqv_py, any_py ys]
end
section
variable {X : Cx}
theorem op_in' (hu : X.A.units + 65 < cLine) : OpR' X (compareOp .In) (rIn' false) := by
  intro pins s σ H x y v u Q I rx ry h
  obtain ⟨d, e, M, Q', hd, he, m, h, k⟩ := h
  unfold rIn' at h
  split at h
  · rename_i ys
    rw [Bool.false_xor] at h
    obtain ⟨fx, fy, q⟩ := h
    obtain ⟨a, vy, rfl, qy, rry⟩ := rep_tup he
    obtain ⟨as, r1⟩ := Dp.reads I (py d) x v (rep_dp d hd fx) rx
    obtain ⟨bs, r2⟩ := Dp.reads I (.tuple (pyL ys)) _ u (.tup qy (repL_dp ys rry fy)) ry
    refine SeqAt.in_tuple_reads r2 r1 (flL_ok ys fy).1 (fl_ok d fx).1 (room_in_shaped (fl_shaped fx) hu) ⟨.bl _, H, I, rfl, ?_⟩
    rw [any_py]
    exact k _ _ _ _ q TX.refl m mk_bl
  · rename_i a
    obtain ⟨ys, ma, fx, fy, q⟩ := h
    rw [Bool.false_xor] at q
    rw [rep_ref he] at ry
    obtain ⟨vy, hy, ey⟩ := m a _ ma
    refine op_inD hu pins s σ H _ _ v u Q I rx ry ⟨py d, pyL ys, rep_dp d hd fx, .lst (SqL.of hy) (repL_dp ys ey fy), fl_shaped fx, flL_shaped fy, ?_⟩
    rw [any_py]
    exact k _ _ _ _ q TX.refl m mk_bl
  · rename_i t
    obtain ⟨c, rfl, q⟩ := h
    rw [Bool.false_xor] at q
    exact op_in_sign pins s σ H x y v u Q I rx ry ⟨c, t, rep_str hd, rep_str he, k _ _ _ _ q TX.refl m mk_bl⟩
  · exact h.elim
theorem op_notin' (hu : X.A.units + 65 < cLine) : OpR' X (compareOp .NotIn) (rIn' true) := by
  intro pins s σ H x y v u Q I rx ry h
  obtain ⟨d, e, M, Q', hd, he, m, h, k⟩ := h
  unfold rIn' at h
  split at h
  · rename_i ys
    rw [Bool.true_xor] at h
    obtain ⟨fx, fy, q⟩ := h
    obtain ⟨a, vy, rfl, qy, rry⟩ := rep_tup he
    obtain ⟨as, r1⟩ := Dp.reads I (py d) x v (rep_dp d hd fx) rx
    obtain ⟨bs, r2⟩ := Dp.reads I (.tuple (pyL ys)) _ u (.tup qy (repL_dp ys rry fy)) ry
    refine SeqAt.notIn_tuple_reads r2 r1 (flL_ok ys fy).1 (fl_ok d fx).1 (room_in_shaped (fl_shaped fx) hu) ⟨.bl _, H, I, rfl, ?_⟩
    rw [any_py]
    exact k _ _ _ _ q TX.refl m mk_bl
  · rename_i a
    obtain ⟨ys, ma, fx, fy, q⟩ := h
    rw [Bool.true_xor] at q
    rw [rep_ref he] at ry
    obtain ⟨vy, hy, ey⟩ := m a _ ma
    refine op_notInD hu pins s σ H _ _ v u Q I rx ry ⟨py d, pyL ys, rep_dp d hd fx, .lst (SqL.of hy) (repL_dp ys ey fy), fl_shaped fx, flL_shaped fy, ?_⟩
    rw [any_py]
    exact k _ _ _ _ q TX.refl m mk_bl
  · rename_i t
    obtain ⟨c, rfl, q⟩ := h
    rw [Bool.true_xor] at q
    exact op_notIn_sign pins s σ H x y v u Q I rx ry ⟨c, t, rep_str hd, rep_str he, k _ _ _ _ q TX.refl m mk_bl⟩
  · exact h.elim

/-! ### items -/
def rIx' : R2' := fun x y M Q => match y with
  | .int i => match x with
    | .tup xs => ∃ d, atI xs i = some d ∧ Q d M
    | .ref a => ∃ xs d, M a = some (.lst xs) ∧ atI xs i = some d ∧ Q d M
    | .rol _ ns => ∃ d : Int, atI ns i = some d ∧ Q (.int d) M
    | .str z => z.length ≤ sizeLine ∧ ∃ c, atI z.cps.toList i = some c ∧ Q (.str ⟨#[c]⟩) M
    | _ => False
  | _ => False
theorem atI_rep {K : PySem.W.Frag} {H : Hp} {ds : List D} {vs : List V} (r : RepL K H ds vs) {i : Int} {d : D} (e : atI ds i = some d) : ∃ v, atI vs i = some v ∧ Rep K H d v := by
  unfold atI at e ⊢
  rw [r.len]
  cases q : ixN ds.length i with
  | none => rw [q] at e; cases e
  | some j =>
    rw [q] at e
    obtain ⟨v, a, b⟩ := r.get (i := j) e
    exact ⟨v, a, b⟩
theorem atI_map {α β : Type} {f : α → β} {xs : List α} {i : Int} {x : α} (e : atI xs i = some x) : atI (xs.map f) i = some (f x) := by
  unfold atI at e ⊢
  rw [List.length_map]
  cases q : ixN xs.length i with
  | none => rw [q] at e; cases e
  | some j =>
    rw [q] at e
    show (xs.map f)[j]? = _
    rw [List.getElem?_map]
    have e' : xs[j]? = some x := e
    rw [e']; rfl
theorem ix' : IxR' X rIx' := by
  intro value slice pins s σ H x y v u Q I rx ry h hs
  obtain ⟨d, e, M, Q', hd, he, m, h, k⟩ := h
  unfold rIx' at h
  split at h
  · rename_i i
    split at h
    · rename_i xs
      obtain ⟨z, ez, q⟩ := h
      obtain ⟨a, vs, rfl, qa, rr⟩ := rep_tup hd
      obtain ⟨w, ew, rw'⟩ := atI_rep rr ez
      exact ix_tup value slice pins s σ H _ _ v u Q I rx ry ⟨a, vs, i, w, rfl, rep_int he, qa, ew, k _ _ _ _ q TX.refl m rw'⟩ hs
    · rename_i a
      obtain ⟨xs, z, ma, ez, q⟩ := h
      obtain ⟨vs, ha, rr⟩ := m a _ ma
      obtain ⟨w, ew, rw'⟩ := atI_rep rr ez
      exact ix_list value slice pins s σ H _ _ v u Q I rx ry ⟨a, vs, i, w, rep_ref hd, rep_int he, SqL.of ha, ew, k _ _ _ _ q TX.refl m rw'⟩ hs
    · rename_i a ns
      obtain ⟨z, ez, q⟩ := h
      obtain ⟨rfl, hr⟩ := rep_rol hd
      exact ix_list value slice pins s σ H _ _ v u Q I rx ry ⟨a, _, i, .int z, rfl, rep_int he, hr.sq, atI_map ez, k _ _ _ _ q TX.refl m mk_int⟩ hs
    · rename_i z
      obtain ⟨hz, c, ec, q⟩ := h
      exact ix_str value slice pins s σ H _ _ v u Q I rx ry ⟨z, i, c, rep_str hd, rep_int he, hz, ec, k _ _ _ _ q TX.refl m mk_str⟩ hs
    · exact h.elim
  · exact h.elim
end
end Pw
set_option Elab.async false
set_option linter.all false
set_option maxRecDepth 100000
set_option maxHeartbeats 4000000
namespace Pw
open PySem PySem.Spec PyProof.Rows L2

/-! ### defs, where nothing is being shown (no guard of repr stands) -/
/-- the def at f keeps the promise r (n arguments), by at most k rooms, in a run without guards; nothing leaves it -/
structure Fn (P : Program) (w : World) (K : PySem.W.Frag) (mg : Str → Option Value) (base : Heap) (k : Nat) (f : Addr) (fd : FuncData) (ps : List Str) (r : RC') : Prop where
  go : ∀ (A : Around) (outer : List Env) (s : Shared) (H : Hp) (ar : Args) (us : List Value) (vs : List V) (ds : List D) (M : Mp) (Qd : Q1), Room k A → A.guards = some [] → Env0 P w K mg base A outer s H →
    BindsTo s fd ar (ps.zip us) → us.length = ps.length → Vals vs us → RepL K H ds vs → Sim K H M → r ds M Qd →
    codeAny (model P w) A (.call (.ref f) ar) (CR CX0 outer P w H s (fun v H' => ∃ d M', Qd d M' ∧ TX H H' ∧ Sim K H' M' ∧ Rep K H' d v) E0) s
theorem Fn.le {P : Program} {w : World} {K : PySem.W.Frag} {mg : Str → Option Value} {base : Heap} {j k : Nat} {f : Addr} {fd : FuncData} {ps : List Str} {r : RC'} (F : Fn P w K mg base j f fd ps r) (h : j ≤ k) : Fn P w K mg base k f fd ps r :=
  ⟨fun A o s H ar us vs ds M Qd hr hg => F.go A o s H ar us vs ds M Qd (hr.mono h) hg⟩
/-- where one stands -/
structure At (P : Program) (w : World) (K : PySem.W.Frag) (mg : Str → Option Value) (base : Heap) (k : Nat) (X : Cx) : Prop where
  p : X.prog = P
  w : X.w = w
  K : X.K = K
  m : X.mg = mg
  b : X.base = base
  calm : X.calm = true
  room : Room k X.A
  grd : X.A.guards = some []
theorem At.le {P : Program} {w : World} {K : PySem.W.Frag} {mg : Str → Option Value} {base : Heap} {j k : Nat} {X : Cx} (a : At P w K mg base k X) (h : j ≤ k) : At P w K mg base j X := ⟨a.p, a.w, a.K, a.m, a.b, a.calm, a.room.mono h, a.grd⟩
theorem At.blk {P : Program} {w : World} {K : PySem.W.Frag} {mg : Str → Option Value} {base : Heap} {k : Nat} {X : Cx} (a : At P w K mg base k X) (s : Shared) (H : Hp) (sc : Scope) (ce : Env) (fp : List Addr) : At P w K mg base k (X.blk s H sc ce fp) := ⟨a.p, a.w, a.K, a.m, a.b, a.calm, a.room, a.grd⟩

/-- no star -/
def plainE : Expr → Bool
  | .Starred _ _ => false
  | _ => true
theorem star1 {e : Expr} {es : List Expr} {env : Env} (h : plainE e = true) : starEach (e :: es) env = (false, eval e env) :: starEach es env := by
  cases e <;> first | rfl | cases h
theorem star_all {env : Env} {pos : Pos} : ∀ {es : List Expr}, es.all plainE = true → (backTo pos (starEach es env)).any (·.1) = false
  | [], _ => rfl
  | e :: es, h => by
    rw [List.all_cons, Bool.and_eq_true] at h
    rw [star1 h.1]
    show (false || (backTo pos (starEach es env)).any (·.1)) = false
    rw [star_all h.2]; rfl
def call' (r : RC') (t : A') : E' := fun ρ M Q => t ρ M fun ds M1 => r ds M1 Q
/-- a name that is called -/
def CallOk (P : Program) (w : World) (K : PySem.W.Frag) (mg : Str → Option Value) (base : Heap) (k : Nat) (x : Str) (r : RC') : Prop :=
  ∀ (X : Cx), At P w K mg base k X → Gl X x → ∀ (e : Expr) (es : List Expr) (t : A') (p pos : Pos), (e :: es).all plainE = true → PA' X (e :: es) t → PE' X (.Call (.Name x p) (e :: es) [] pos) (call' r t)
def CallOk0 (P : Program) (w : World) (K : PySem.W.Frag) (mg : Str → Option Value) (base : Heap) (k : Nat) (x : Str) (r : RC') : Prop :=
  ∀ (X : Cx), At P w K mg base k X → Gl X x → ∀ (p pos : Pos), PE' X (.Call (.Name x p) [] [] pos) (call' r nil')
section
variable {P : Program} {w : World} {K : PySem.W.Frag} {mg : Str → Option Value} {base : Heap} {k : Nat} {x : Str} {r : RC'}
theorem runFn {X : Cx} {f : Addr} {fd : FuncData} {ps : List Str} {pins : List (Addr × Obj)} {σ : L2.St} {H H0 : Hp} {s : Shared} {us : List Value} {vs : List V} {ds : List D} {M : Mp} {Qd : Q1} {Q : VK} (F : Fn X.prog X.w X.K X.mg X.base k f fd ps r)
    (hr : Room k X.A) (hg : X.A.guards = some []) (hb : Binds X.K fd ps []) (hn : us.length = ps.length) (I : Inv X pins σ H s) (rv : Vals vs us) (rd : RepL X.K H ds vs) (m : Sim X.K H M) (q : r ds M Qd)
    (fin : ∀ d M' v H', Qd d M' → TX H H' → Sim X.K H' M' → Rep X.K H' d v → Q v H') : wpAny (model X.prog X.w) X.A (call (.ref f) us) (EP X pins σ Q) X.xe s := by
  have hz : (us ++ ([] : List Value)).length = ps.length := by rw [List.append_nil]; exact hn
  have hbt := hb s us I.kIn hz
  rw [List.append_nil] at hbt
  refine wpAny_call (codeAny_mono (F.go X.A X.stack s H ⟨us, []⟩ us vs ds M Qd hr hg I.env0 hbt hn rv rd m q) fun o s' ho => ?_)
  cases o with
  | error e => exact ho.elim
  | ok fl =>
    cases fl with
    | ret u =>
      obtain ⟨v, H', J, rw', d, M', qd, tx, m', rd'⟩ := I.after ho
      exact ⟨v, H', J, rw', fin d M' v H' qd tx m' rd'⟩
    | next => exact ho.elim
    | brk => exact ho.elim
    | cont => exact ho.elim
theorem callOk_fn {f : Addr} {fd : FuncData} {ps : List Str} (F : Fn P w K mg base k f fd ps r) (hm : mg x = some (.ref f)) (hk : PySem.W.keepIn K (.ref f) = true) (hb : Binds K fd ps []) (hl : ∀ ds M Q, r ds M Q → ds.length = ps.length)
    (hdb : (x == ("__debug__" : Str)) = false) : CallOk P w K mg base k x r := by
  intro X a hg e es t p pos hst ha
  obtain ⟨rfl, rfl, rfl, rfl, rfl, hc, hr, hgu⟩ := a
  refine ⟨fun pins s σ H Q I h => ?_⟩
  obtain ⟨ρ, M, Q', hs, m, h, kk⟩ := h
  refine wpAny_Call_Name_kw (ld_glob I hg hm ?_ hdb)
  have h2 := hst
  rw [List.all_cons, Bool.and_eq_true] at h2
  refine PySem.W.callWith_K (h₀ := X.base) I.ok.mod.kin hk (thn (ha.run pos pins s σ H (fun vs H1 => ∃ ds M1, r ds M1 Q' ∧ TX H H1 ∧ Sim X.K H1 M1 ∧ RepL X.K H1 ds vs) I ⟨ρ, M, _, hs, m, h, fun ds M1 vs H1 q tx m1 rd => ⟨ds, M1, q, tx, m1, rd⟩⟩) fun us s1 hh => ?_) (star1 h2.1) (star_all h2.2)
  obtain ⟨vs, H1, I1, rv, ds, M1, q, tx, m1, rd⟩ := hh
  refine ⟨I1.kIn, ?_⟩
  refine runFn (H0 := H) F hr hgu hb ?_ I1 rv rd m1 q fun d M' v H' q' tx' m' rd' => kk d M' v H' q' (tx.trans tx') m' rd'
  show us.length = ps.length
  rw [← rv.length, rd.len]
  exact hl _ _ _ q
theorem callOk_fn0 {f : Addr} {fd : FuncData} (F : Fn P w K mg base k f fd [] r) (hm : mg x = some (.ref f)) (hk : PySem.W.keepIn K (.ref f) = true) (hb : Binds K fd [] [])
    (hdb : (x == ("__debug__" : Str)) = false) : CallOk0 P w K mg base k x r := by
  intro X a hg p pos
  obtain ⟨rfl, rfl, rfl, rfl, rfl, hc, hr, hgu⟩ := a
  refine ⟨fun pins s σ H Q I h => ?_⟩
  obtain ⟨ρ, M, Q', hs, m, h, kk⟩ := h
  refine wpAny_Call_Name_kw (ld_glob I hg hm ?_ hdb)
  exact PySem.W.callWith_K0 I.kIn hk (runFn (H0 := H) (us := []) F hr hgu hb rfl I .nil repL_nil m h fun d M' v H' q' tx' m' rd' => kk d M' v H' q' tx' m' rd')
/-- a built-in function by its rule -/
theorem callOk_b {id : String} (hc : ∀ X, At P w K mg base k X → CallR' X (.builtin id) r) (hm : mg x = none) (hv : bootBuiltins x = some (.builtin id)) (hn : x ≠ "__name__") (hdb : (x == ("__debug__" : Str)) = false) : CallOk P w K mg base k x r := by
  intro X a hg e es t p pos hst ha
  have h2 := hst
  rw [List.all_cons, Bool.and_eq_true] at h2
  refine (pe_callB (hc X a) hg (by rw [a.m]; exact hm) hv ha hn hdb (star1 h2.1) (star_all h2.2)).weak ?_
  rintro σ H Q ⟨ρ, M, Q', hs, m, h, kk⟩
  exact ⟨ρ, M, _, hs, m, h, fun ds M1 vs H1 q tx m1 rd => ⟨ds, M1, Q', rd, m1, q, fun z M' v H' q' tx' m' rd' => kk _ _ _ _ q' (tx.trans tx') m' rd'⟩⟩
theorem callOk_t {id : String} (hc : ∀ X, At P w K mg base k X → CallR' X (.type id) r) (hm : mg x = none) (hv : bootBuiltins x = some (.type id)) (hn : x ≠ "__name__") (hdb : (x == ("__debug__" : Str)) = false) : CallOk P w K mg base k x r := by
  intro X a hg e es t p pos hst ha
  have h2 := hst
  rw [List.all_cons, Bool.and_eq_true] at h2
  refine (pe_callTy (hc X a) hg (by rw [a.m]; exact hm) hv ha hn hdb (star1 h2.1) (star_all h2.2)).weak ?_
  rintro σ H Q ⟨ρ, M, Q', hs, m, h, kk⟩
  exact ⟨ρ, M, _, hs, m, h, fun ds M1 vs H1 q tx m1 rd => ⟨ds, M1, Q', rd, m1, q, fun z M' v H' q' tx' m' rd' => kk _ _ _ _ q' (tx.trans tx') m' rd'⟩⟩
end

/-! ### built-ins by values -/
section
variable {X : Cx}
theorem repL1 {K : PySem.W.Frag} {H : Hp} {d : D} {vs : List V} (h : RepL K H [d] vs) : ∃ v, vs = [v] ∧ Rep K H d v := by
  unfold RepL at h
  obtain ⟨v, r, rfl, q, t⟩ := h
  unfold RepL at t
  subst t
  exact ⟨v, rfl, q⟩
theorem repL2 {K : PySem.W.Frag} {H : Hp} {d e : D} {vs : List V} (h : RepL K H [d, e] vs) : ∃ v u, vs = [v, u] ∧ Rep K H d v ∧ Rep K H e u := by
  unfold RepL at h
  obtain ⟨v, r, rfl, q, t⟩ := h
  obtain ⟨u, rfl, q2⟩ := repL1 t
  exact ⟨v, u, rfl, q, q2⟩
/-- one argument -/
def on1 (f : D → Mp → Q1 → Prop) : RC' := fun ds M Q => match ds with
  | [x] => f x M Q
  | _ => False
theorem on1_of {f : D → Mp → Q1 → Prop} {ds : List D} {M : Mp} {Q : Q1} (h : on1 f ds M Q) : ∃ x, ds = [x] ∧ f x M Q := by
  unfold on1 at h
  split at h
  · exact ⟨_, rfl, h⟩
  · exact h.elim
def on2 (f : D → D → Mp → Q1 → Prop) : RC' := fun ds M Q => match ds with
  | [x, y] => f x y M Q
  | _ => False
theorem on2_of {f : D → D → Mp → Q1 → Prop} {ds : List D} {M : Mp} {Q : Q1} (h : on2 f ds M Q) : ∃ x y, ds = [x, y] ∧ f x y M Q := by
  unfold on2 at h
  split at h
  · exact ⟨_, _, rfl, h⟩
  · exact h.elim
def bLen : RC' := on1 fun x M Q => match x with
  | .tup xs => Q (.int xs.length) M
  | .str z => z.length ≤ sizeLine ∧ Q (.int z.length) M
  | .ref a => ∃ xs, M a = some (.lst xs) ∧ Q (.int xs.length) M
  | .rol _ ns => Q (.int ns.length) M
  | _ => False
theorem cr_len' : CallR' X (.builtin "len") bLen := call_len.weak (by
  rintro xs H Q ⟨ds, M, Q', rd, m, h, k⟩
  replace h := on1_of h
  obtain ⟨x, rfl, h⟩ := h
  obtain ⟨v, rfl, r⟩ := repL1 rd
  split at h
  · rename_i ys
    obtain ⟨a, vs, rfl, q, rr⟩ := rep_tup r
    exact ⟨_, ys.length, rfl, .inr ⟨vs, q, rr.len.symm⟩, k _ _ _ _ h TX.refl m mk_int⟩
  · rename_i z
    rw [rep_str r]
    exact ⟨_, z.length, rfl, ⟨h.1, rfl⟩, k _ _ _ _ h.2 TX.refl m mk_int⟩
  · rename_i a
    rw [rep_ref r]
    obtain ⟨ys, ma, h⟩ := h
    obtain ⟨vs, z, rr⟩ := m a _ ma
    exact ⟨_, ys.length, rfl, .inl ⟨vs, SqL.of z, rr.len.symm⟩, k _ _ _ _ h TX.refl m mk_int⟩
  · rename_i a ns
    obtain ⟨rfl, hr⟩ := rep_rol r
    exact ⟨_, ns.length, rfl, .inl ⟨_, hr.sq, by simp⟩, k _ _ _ _ h TX.refl m mk_int⟩
  · exact h.elim)
def bTuple : RC' := on1 fun x M Q => match x with
  | .tup xs => Q (.tup xs) M
  | .ref a => ∃ xs, M a = some (.lst xs) ∧ Q (.tup xs) M
  | _ => False
theorem cr_tuple' : CallR' X (.type "tuple") bTuple := call_tuple_of.weak (by
  rintro xs H Q ⟨ds, M, Q', rd, m, h, k⟩
  replace h := on1_of h
  obtain ⟨x, rfl, h⟩ := h
  obtain ⟨v, rfl, r⟩ := repL1 rd
  split at h
  · rename_i ys
    obtain ⟨a, vs, rfl, q, rr⟩ := rep_tup r
    exact ⟨a, vs, rfl, .inr ⟨q, k _ _ _ _ h TX.refl m (mk_tup q rr)⟩⟩
  · rename_i a
    rw [rep_ref r]
    obtain ⟨ys, ma, h⟩ := h
    obtain ⟨vs, z, rr⟩ := m a _ ma
    exact ⟨a, vs, rfl, .inl ⟨SqL.of z, fun l n => k _ _ _ _ h (TX.new n) (m.new n) (new_tup n rr)⟩⟩
  · exact h.elim)
def bList : RC' := on1 fun x M Q => match x with
  | .tup xs => ∀ p, M p = none → Q (.ref p) (put M p (.lst xs))
  | .ref a => ∃ xs, M a = some (.lst xs) ∧ ∀ p, M p = none → Q (.ref p) (put M p (.lst xs))
  | _ => False
theorem cr_list' : CallR' X (.type "list") bList := call_list_of.weak (by
  rintro xs H Q ⟨ds, M, Q', rd, m, h, k⟩
  replace h := on1_of h
  obtain ⟨x, rfl, h⟩ := h
  obtain ⟨v, rfl, r⟩ := repL1 rd
  split at h
  · rename_i ys
    obtain ⟨a, vs, rfl, q, rr⟩ := rep_tup r
    exact ⟨a, vs, rfl, .inr q, fun l n => k _ _ _ _ (h l (m.free n)) (TX.new n) (new_lst m n rr) mk_ref⟩
  · rename_i a
    rw [rep_ref r]
    obtain ⟨ys, ma, h⟩ := h
    obtain ⟨vs, z, rr⟩ := m a _ ma
    exact ⟨a, vs, rfl, .inl (SqL.of z), fun l n => k _ _ _ _ (h l (m.free n)) (TX.new n) (new_lst m n rr) mk_ref⟩
  · exact h.elim)
/-- a list of ints -/
def onInts (f : List Int → Mp → Q1 → Prop) : RC' := on1 fun x M Q => match x with
  | .ref a => ∃ ns : List Int, M a = some (.lst (ns.map D.int)) ∧ f ns M Q
  | _ => False
theorem onInts_of {K : PySem.W.Frag} {f : List Int → Mp → Q1 → Prop} {ds : List D} {M : Mp} {Q : Q1} {H : Hp} {xs : List V} (h : onInts f ds M Q) (rd : RepL K H ds xs) (m : Sim K H M) : ∃ a ns, xs = [.ref a] ∧ SqL K H a (ns.map V.int) ∧ f ns M Q := by
  replace h := on1_of h
  obtain ⟨x, rfl, h⟩ := h
  obtain ⟨v, rfl, r⟩ := repL1 rd
  split at h
  · rename_i a
    rw [rep_ref r]
    obtain ⟨ns, ma, h⟩ := h
    obtain ⟨vs, z, rr⟩ := m a _ ma
    rw [rr.ints] at z
    exact ⟨a, ns, rfl, SqL.of z, h⟩
  · exact h.elim
def bSum : RC' := onInts fun ns M Q => Q (.int ns.sum) M
theorem cr_sum' (hc : X.calm = true) : CallR' X (.builtin "sum") bSum := (cr_sum hc).weak (by
  rintro xs H Q ⟨ds, M, Q', rd, m, h, k⟩
  obtain ⟨a, ns, rfl, hq, h⟩ := onInts_of h rd m
  exact ⟨a, ns, rfl, hq, k _ _ _ _ h TX.refl m mk_int⟩)
def bAbs : RC' := on1 fun x M Q => match x with
  | .int i => Q (.int (if i < 0 then -i else i)) M
  | _ => False
theorem cr_abs' : CallR' X (.builtin "abs") bAbs := call_abs.weak (by
  rintro xs H Q ⟨ds, M, Q', rd, m, h, k⟩
  replace h := on1_of h
  obtain ⟨x, rfl, h⟩ := h
  obtain ⟨v, rfl, r⟩ := repL1 rd
  split at h
  · rename_i i
    rw [rep_int r]
    exact ⟨i, rfl, k _ _ _ _ h TX.refl m mk_int⟩
  · exact h.elim)
def bInt : RC' := on1 fun x M Q => match x with
  | .int i => Q (.int i) M
  | .bl b => Q (.int (if b then 1 else 0)) M
  | _ => False
theorem cr_int' : CallR' X (.type "int") bInt := call_int1.weak (by
  rintro xs H Q ⟨ds, M, Q', rd, m, h, k⟩
  replace h := on1_of h
  obtain ⟨x, rfl, h⟩ := h
  obtain ⟨v, rfl, r⟩ := repL1 rd
  split at h
  · rename_i i
    rw [rep_int r]
    exact .inl ⟨i, rfl, k _ _ _ _ h TX.refl m mk_int⟩
  · rename_i b
    rw [rep_bl r]
    exact .inr ⟨b, rfl, k _ _ _ _ h TX.refl m mk_int⟩
  · exact h.elim)
/-- max, min: of a list of ints; of two ints -/
def bMax : RC' := fun ds M Q => match ds with
  | [.ref a] => ∃ ns : List Int, M a = some (.lst (ns.map D.int)) ∧ 0 < ns.length ∧ ∀ z, z ∈ ns → (∀ y, y ∈ ns → y ≤ z) → Q (.int z) M
  | [.int i, .int j] => Q (.int (if j > i then j else i)) M
  | _ => False
def bMin : RC' := fun ds M Q => match ds with
  | [.ref a] => ∃ ns : List Int, M a = some (.lst (ns.map D.int)) ∧ 0 < ns.length ∧ ∀ z, z ∈ ns → (∀ y, y ∈ ns → z ≤ y) → Q (.int z) M
  | [.int i, .int j] => Q (.int (if j < i then j else i)) M
  | _ => False
theorem cr_max' (hc : X.calm = true) : CallR' X (.builtin "max") bMax := ((cr_max hc).or (call_max2 hc)).weak (by
  rintro xs H Q ⟨ds, M, Q', rd, m, h, k⟩
  unfold bMax at h
  split at h
  · rename_i a
    obtain ⟨v, rfl, r⟩ := repL1 rd
    rw [rep_ref r]
    obtain ⟨ns, ma, h0, h⟩ := h
    obtain ⟨vs, z, rr⟩ := m a _ ma
    rw [rr.ints] at z
    exact .inl ⟨a, ns, rfl, SqL.of z, h0, fun y hy hle => k _ _ _ _ (h y hy hle) TX.refl m mk_int⟩
  · rename_i i j
    obtain ⟨v, u, rfl, r1, r2⟩ := repL2 rd
    rw [rep_int r1, rep_int r2]
    exact .inr ⟨i, j, rfl, k _ _ _ _ h TX.refl m mk_int⟩
  · exact h.elim)
theorem cr_min' (hc : X.calm = true) : CallR' X (.builtin "min") bMin := ((cr_min hc).or (call_min2 hc)).weak (by
  rintro xs H Q ⟨ds, M, Q', rd, m, h, k⟩
  unfold bMin at h
  split at h
  · rename_i a
    obtain ⟨v, rfl, r⟩ := repL1 rd
    rw [rep_ref r]
    obtain ⟨ns, ma, h0, h⟩ := h
    obtain ⟨vs, z, rr⟩ := m a _ ma
    rw [rr.ints] at z
    exact .inl ⟨a, ns, rfl, SqL.of z, h0, fun y hy hle => k _ _ _ _ (h y hy hle) TX.refl m mk_int⟩
  · rename_i i j
    obtain ⟨v, u, rfl, r1, r2⟩ := repL2 rd
    rw [rep_int r1, rep_int r2]
    exact .inr ⟨i, j, rfl, k _ _ _ _ h TX.refl m mk_int⟩
  · exact h.elim)
def onBls (f : List Bool → Mp → Q1 → Prop) : RC' := on1 fun x M Q => match x with
  | .ref a => ∃ ns : List Bool, M a = some (.lst (ns.map D.bl)) ∧ f ns M Q
  | _ => False
theorem onBls_of {K : PySem.W.Frag} {f : List Bool → Mp → Q1 → Prop} {ds : List D} {M : Mp} {Q : Q1} {H : Hp} {xs : List V} (h : onBls f ds M Q) (rd : RepL K H ds xs) (m : Sim K H M) : ∃ a ns, xs = [.ref a] ∧ SqL K H a (ns.map V.bl) ∧ f ns M Q := by
  replace h := on1_of h
  obtain ⟨x, rfl, h⟩ := h
  obtain ⟨v, rfl, r⟩ := repL1 rd
  split at h
  · rename_i a
    rw [rep_ref r]
    obtain ⟨ns, ma, h⟩ := h
    obtain ⟨vs, z, rr⟩ := m a _ ma
    rw [rr.bls] at z
    exact ⟨a, ns, rfl, SqL.of z, h⟩
  · exact h.elim
def bAll : RC' := onBls fun ns M Q => Q (.bl (ns.all id)) M
def bAny : RC' := onBls fun ns M Q => Q (.bl (ns.any id)) M
theorem cr_all' (hc : X.calm = true) : CallR' X (.builtin "all") bAll := (cr_all hc).weak (by
  rintro xs H Q ⟨ds, M, Q', rd, m, h, k⟩
  obtain ⟨a, ns, rfl, hq, h⟩ := onBls_of h rd m
  exact ⟨a, ns, rfl, hq, k _ _ _ _ h TX.refl m mk_bl⟩)
theorem cr_any' (hc : X.calm = true) : CallR' X (.builtin "any") bAny := (cr_any hc).weak (by
  rintro xs H Q ⟨ds, M, Q', rd, m, h, k⟩
  obtain ⟨a, ns, rfl, hq, h⟩ := onBls_of h rd m
  exact ⟨a, ns, rfl, hq, k _ _ _ _ h TX.refl m mk_bl⟩)
/-- sorted, of a list of ints -/
def bSorted : RC' := onInts fun ns M Q => ∀ (ms : List Int) (p : Addr), ms.Perm ns → ms.Pairwise (· ≤ ·) → M p = none → Q (.ref p) (put M p (.lst (ms.map D.int)))
theorem cr_sorted' : CallR' X (.builtin "sorted") bSorted := cr_sortedI.weak (by
  rintro xs H Q ⟨ds, M, Q', rd, m, h, k⟩
  obtain ⟨a, ns, rfl, hq, h⟩ := onInts_of h rd m
  exact ⟨a, ns, rfl, hq, fun ms p pm pw n => k _ _ _ _ (h ms p pm pw (m.free n)) (TX.new n) (new_lst m n (repL_ints ms)) mk_ref⟩)
end
end Pw
set_option Elab.async false
set_option linter.all false
set_option maxRecDepth 100000
set_option maxHeartbeats 4000000
namespace Pw
open PySem PySem.Spec PyProof.Rows L2

/-! ### slices -/
def cutG {α : Type} (xs : List α) (lo hi : Option Int) : List α := (xs.drop (HT.sIx xs.length 0 lo)).take (HT.sIx xs.length xs.length hi - HT.sIx xs.length 0 lo)
theorem RepL.cut {K : PySem.W.Frag} {H : Hp} {ds : List D} {vs : List V} (r : RepL K H ds vs) (lo hi : Option Int) : RepL K H (cutG ds lo hi) (cutV vs lo hi) := by
  unfold cutG cutV
  rw [r.len]
  exact (r.drop _).take _
abbrev O' := Rho → Mp → (Option Int → Mp → Prop) → Prop
def liftO (K : PySem.W.Frag) (t : O') : TO := fun σ H Q => ∃ ρ M Q', SimS K H σ ρ ∧ Sim K H M ∧ t ρ M Q' ∧ ∀ o M' H', Q' o M' → TX H H' → Sim K H' M' → Q o H'
abbrev PO' (X : Cx) (e : Option Expr) (t : O') : Prop := PO X e (liftO X.K t)
def liftSl (K : PySem.W.Frag) (r : D → Option Int → Option Int → Mp → Q1 → Prop) : V → Option Int → Option Int → Hp → VK → Prop := fun x lo hi H Q => ∃ d M Q', Rep K H d x ∧ Sim K H M ∧ r d lo hi M Q' ∧ ∀ z M' v H', Q' z M' → TX H H' → Sim K H' M' → Rep K H' z v → Q v H'
theorem _root_.L2.PO.weak {X : Cx} {e : Option Expr} {t u : TO} (h : PO X e t) (w : ∀ σ H Q, u σ H Q → t σ H Q) : PO X e u := ⟨fun pins s σ H Q I q => h.run pins s σ H Q I (w σ H Q q)⟩
def rSl' (x : D) (lo hi : Option Int) (M : Mp) (Q : Q1) : Prop := match x with
  | .tup xs => Q (.tup (cutG xs lo hi)) M
  | .ref a => ∃ xs, M a = some (.lst xs) ∧ ∀ p, M p = none → Q (.ref p) (put M p (.lst (cutG xs lo hi)))
  | .str z => z.length ≤ sizeLine ∧ Q (.str (cutS z lo hi)) M
  | _ => False
section
variable {X : Cx} {a b c e : Expr} {ta tb tc : E'} {pos : Pos}
def noPart' : O' := fun _ M Q => Q none M
def part' (t : E') : O' := fun ρ M Q => t ρ M fun d M1 => ∃ i, d = .int i ∧ Q (some i) M1
theorem po_none' : PO' X none noPart' := po_none.weak (by
  rintro σ H Q ⟨ρ, M, Q', hs, hm, h, k⟩
  exact k _ _ _ h TX.refl hm)
theorem po_some' (h : PE' X a ta) : PO' X (some a) (part' ta) := (po_some h).weak (by
  rintro σ H Q ⟨ρ, M, Q', hs, hm, h, k⟩
  exact ⟨ρ, M, _, hs, hm, h, fun d M1 v H1 ⟨i, e, q⟩ tx m1 r => ⟨i, by rw [e] at r; exact rep_int r, k _ _ _ q tx m1⟩⟩)
theorem cut_whole {α : Type} {xs : List α} {lo hi : Option Int} (h : HT.sIx xs.length 0 lo = 0 ∧ HT.sIx xs.length xs.length hi = xs.length) : cutG xs lo hi = xs := by
  unfold cutG; rw [h.1, h.2]; simp
theorem sl' : SlR X (liftSl X.K rSl') := by
  intro pins s σ H x v vl vu lo hi sl Q I rx hs pl pu h
  obtain ⟨d, M, Q', hd, m, h, k⟩ := h
  unfold rSl' at h
  split at h
  · rename_i xs
    obtain ⟨a, vs, rfl, q, rr⟩ := rep_tup hd
    refine sl_tupA pins s σ H _ v vl vu lo hi sl Q I rx hs pl pu ⟨a, vs, rfl, q, fun hw => ?_, fun _ p n => ?_⟩
    · rw [rr.len] at hw
      rw [cut_whole hw] at h
      exact k _ _ _ _ h TX.refl m hd
    · exact k _ _ _ _ h (TX.new n) (m.new n) (new_tup n (rr.cut lo hi))
  · rename_i a
    obtain ⟨xs, ma, h⟩ := h
    rw [rep_ref hd] at rx
    obtain ⟨vs, z, rr⟩ := m a _ ma
    exact sl_list pins s σ H _ v vl vu lo hi sl Q I rx hs pl pu ⟨a, vs, rfl, SqL.of z, fun p n => k _ _ _ _ (h p (m.free n)) (TX.new n) (new_lst m n (rr.cut lo hi)) mk_ref⟩
  · rename_i z
    rw [rep_str hd] at rx
    exact sl_str pins s σ H _ v vl vu lo hi sl Q I rx hs pl pu ⟨z, rfl, h.1, k _ _ _ _ h.2 TX.refl m mk_str⟩
  · exact h.elim
def slc' (ta : E') (tl th : O') : E' := fun ρ M Q => ta ρ M fun d M1 => tl ρ M1 fun l M2 => th ρ M2 fun u M3 => rSl' d l u M3 Q
theorem pe_slice' {lo hi : Option Expr} {tl th : O'} {p2 : Pos} (he : PE' X e ta) (hl : PO' X lo tl) (hu : PO' X hi th) : PE' X (.Subscript e (.Slice lo hi none p2) pos) (slc' ta tl th) := (pe_slice sl' he hl hu).weak (by
  rintro σ H Q ⟨ρ, M, Q', hs, hm, h, k⟩
  exact ⟨ρ, M, _, hs, hm, h, fun d M1 v H1 q1 e1 m1 r1 => ⟨ρ, M1, _, hs.mono e1, m1, q1, fun l M2 H2 q2 e2 m2 => ⟨ρ, M2, _, hs.mono (e1.trans e2), m2, q2, fun u M3 H3 q3 e3 m3 =>
    ⟨d, M3, Q', r1.mono (e2.trans e3), m3, q3, fun z M' w H' q' e' m' r' => k _ _ _ _ q' (((e1.trans e2).trans e3).trans e') m' r'⟩⟩⟩⟩)

/-! ### minus, not, conditional, and, or -/
def neg' (ta : E') : E' := fun ρ M Q => ta ρ M fun d M1 => match d with
  | .int i => Q (.int (-i)) M1
  | _ => False
theorem pe_neg' (ha : PE' X a ta) : PE' X (.UnaryOp .USub a pos) (neg' ta) := (pe_un un_neg ha).weak (by
  rintro σ H Q ⟨ρ, M, Q', hs, hm, h, k⟩
  refine ⟨ρ, M, _, hs, hm, h, fun d M1 v H1 q1 e1 m1 r1 => ?_⟩
  split at q1
  · rename_i i
    exact ⟨i, rep_int r1, k _ _ _ _ q1 e1 m1 mk_int⟩
  · exact q1.elim)
def not' (ta : E') : E' := fun ρ M Q => ta ρ M fun d M1 => ∃ k, truD M1 d = some k ∧ Q (.bl (!k)) M1
theorem pe_not' (ha : PE' X a ta) : PE' X (.UnaryOp .Not a pos) (not' ta) := (pe_notT ha).weak (by
  rintro σ H Q ⟨ρ, M, Q', hs, hm, h, k⟩
  refine ⟨ρ, M, _, hs, hm, h, fun d M1 v H1 q1 e1 m1 r1 => ?_⟩
  obtain ⟨b, eb, q⟩ := q1
  exact ⟨b, tru_of m1 r1 eb, k _ _ _ _ q e1 m1 mk_bl⟩)
theorem pt_not' {t : T'} (ha : PT' X a t) : PT' X (.UnaryOp .Not a pos) (fun ρ M Q => t ρ M fun b M1 => Q (!b) M1) := (pt_not ha).weak (by
  rintro σ H Q ⟨ρ, M, Q', hs, hm, h, k⟩
  exact ⟨ρ, M, _, hs, hm, h, fun b M1 H1 q tx m1 => k _ _ _ q tx m1⟩)
def ite' (t : T') (ta tb : E') : E' := fun ρ M Q => t ρ M fun b M1 => if b = true then ta ρ M1 Q else tb ρ M1 Q
theorem pe_ite' {t : T'} (hc : PT' X c t) (ha : PE' X a ta) (hb : PE' X b tb) : PE' X (.IfExp c a b pos) (ite' t ta tb) := (pe_ifExp hc ha hb).weak (by
  rintro σ H Q ⟨ρ, M, Q', hs, hm, h, k⟩
  refine ⟨ρ, M, _, hs, hm, h, fun z M1 H1 q tx m1 => ?_⟩
  cases z with
  | true =>
    rw [if_pos rfl] at q ⊢
    exact ⟨ρ, M1, Q', hs.mono tx, m1, q, fun d M' v H' q' tx' m' r' => k _ _ _ _ q' (tx.trans tx') m' r'⟩
  | false =>
    rw [if_neg Bool.false_ne_true] at q ⊢
    exact ⟨ρ, M1, Q', hs.mono tx, m1, q, fun d M' v H' q' tx' m' r' => k _ _ _ _ q' (tx.trans tx') m' r'⟩)
def and' (ta tb : E') : E' := fun ρ M Q => ta ρ M fun d M1 => ∃ k, truD M1 d = some k ∧ if k = true then tb ρ M1 Q else Q d M1
def or' (ta tb : E') : E' := fun ρ M Q => ta ρ M fun d M1 => ∃ k, truD M1 d = some k ∧ if k = true then Q d M1 else tb ρ M1 Q
variable {rest : List Expr}
theorem pe_and' (ha : PE' X a ta) (hb : PE' X (.BoolOp .And (b :: rest) pos) tb) : PE' X (.BoolOp .And (a :: b :: rest) pos) (and' ta tb) := (pe_andT ha hb).weak (by
  rintro σ H Q ⟨ρ, M, Q', hs, hm, h, k⟩
  refine ⟨ρ, M, _, hs, hm, h, fun d M1 v H1 q1 tx m1 r1 => ?_⟩
  obtain ⟨z, ez, q⟩ := q1
  refine ⟨z, tru_of m1 r1 ez, ?_⟩
  cases z with
  | true =>
    rw [if_pos rfl] at q ⊢
    exact ⟨ρ, M1, Q', hs.mono tx, m1, q, fun d M' v H' q' tx' m' r' => k _ _ _ _ q' (tx.trans tx') m' r'⟩
  | false =>
    rw [if_neg Bool.false_ne_true] at q ⊢
    exact k _ _ _ _ q tx m1 r1)
theorem pe_or' (ha : PE' X a ta) (hb : PE' X (.BoolOp .Or (b :: rest) pos) tb) : PE' X (.BoolOp .Or (a :: b :: rest) pos) (or' ta tb) := (pe_orT ha hb).weak (by
  rintro σ H Q ⟨ρ, M, Q', hs, hm, h, k⟩
  refine ⟨ρ, M, _, hs, hm, h, fun d M1 v H1 q1 tx m1 r1 => ?_⟩
  obtain ⟨z, ez, q⟩ := q1
  refine ⟨z, tru_of m1 r1 ez, ?_⟩
  cases z with
  | true =>
    rw [if_pos rfl] at q ⊢
    exact k _ _ _ _ q tx m1 r1
  | false =>
    rw [if_neg Bool.false_ne_true] at q ⊢
    exact ⟨ρ, M1, Q', hs.mono tx, m1, q, fun d M' v H' q' tx' m' r' => k _ _ _ _ q' (tx.trans tx') m' r'⟩)
/-- as tests: the truth of what the value would be -/
theorem tt_and {ρ : Rho} {M : Mp} {Q : Bool → Mp → Prop} (h : tt' (and' ta tb) ρ M Q) : ta ρ M fun d M1 => ∃ k, truD M1 d = some k ∧ if k = true then tt' tb ρ M1 Q else ∃ k, truD M1 d = some k ∧ Q k M1 := h
theorem pw_and' {t u : T'} (ha : PT' X a t) (hb : PW' X (.BoolOp .And (b :: rest) pos) u) : PW' X (.BoolOp .And (a :: b :: rest) pos) (fun ρ M Q => t ρ M fun c M1 => if c = true then u ρ M1 Q else Q false M1) := (pw_and ha hb).weak (by
  rintro σ H Q ⟨ρ, M, Q', hs, hm, h, k⟩
  refine ⟨ρ, M, _, hs, hm, h, fun z M1 H1 q tx m1 => ?_⟩
  cases z with
  | true =>
    rw [if_pos rfl] at q ⊢
    exact ⟨ρ, M1, Q', hs.mono tx, m1, q, fun d M' H' q' tx' m' => k _ _ _ q' (tx.trans tx') m'⟩
  | false =>
    rw [if_neg Bool.false_ne_true] at q ⊢
    exact k _ _ _ q tx m1)
theorem pw_or' {t u : T'} (ha : PT' X a t) (hb : PW' X (.BoolOp .Or (b :: rest) pos) u) : PW' X (.BoolOp .Or (a :: b :: rest) pos) (fun ρ M Q => t ρ M fun c M1 => if c = true then Q true M1 else u ρ M1 Q) := (pw_or ha hb).weak (by
  rintro σ H Q ⟨ρ, M, Q', hs, hm, h, k⟩
  refine ⟨ρ, M, _, hs, hm, h, fun z M1 H1 q tx m1 => ?_⟩
  cases z with
  | true =>
    rw [if_pos rfl] at q ⊢
    exact k _ _ _ q tx m1
  | false =>
    rw [if_neg Bool.false_ne_true] at q ⊢
    exact ⟨ρ, M1, Q', hs.mono tx, m1, q, fun d M' H' q' tx' m' => k _ _ _ q' (tx.trans tx') m'⟩)
end

/-! ### statements -/
structure Ends' where
  nx : Rho → Mp → Prop
  rt : D → Mp → Prop
  bk : Rho → Mp → Prop := fun _ _ => False
  ct : Rho → Mp → Prop := fun _ _ => False
abbrev S' := Ends' → Rho → Mp → Prop
structure EndsOk (K : PySem.W.Frag) (H : Hp) (D' : Ends') (Z : Ends) : Prop where
  nx : ∀ ρ M σ H', D'.nx ρ M → TX H H' → SimS K H' σ ρ → Sim K H' M → Z.nx σ H'
  bk : ∀ ρ M σ H', D'.bk ρ M → TX H H' → SimS K H' σ ρ → Sim K H' M → Z.bk σ H'
  ct : ∀ ρ M σ H', D'.ct ρ M → TX H H' → SimS K H' σ ρ → Sim K H' M → Z.ct σ H'
  rt : ∀ d M v H', D'.rt d M → TX H H' → Sim K H' M → Rep K H' d v → Z.rt v H'
theorem EndsOk.mono {K : PySem.W.Frag} {H H1 : Hp} {D' : Ends'} {Z : Ends} (e : EndsOk K H D' Z) (tx : TX H H1) : EndsOk K H1 D' Z :=
  ⟨fun ρ M σ H' q t => e.nx ρ M σ H' q (tx.trans t), fun ρ M σ H' q t => e.bk ρ M σ H' q (tx.trans t), fun ρ M σ H' q t => e.ct ρ M σ H' q (tx.trans t), fun d M v H' q t => e.rt d M v H' q (tx.trans t)⟩
def liftS (K : PySem.W.Frag) (t : S') : TS := fun Z σ H => ∃ ρ M D', SimS K H σ ρ ∧ Sim K H M ∧ t D' ρ M ∧ EndsOk K H D' Z
abbrev PS' (X : Cx) (st : Stmt) (t : S') : Prop := PS X st (liftS X.K t)
abbrev PSs' (X : Cx) (st : List Stmt) (t : S') : Prop := PSs X st (liftS X.K t)
theorem _root_.L2.PS.weak {X : Cx} {st : Stmt} {t u : TS} (h : PS X st t) (w : ∀ D σ H, u D σ H → t D σ H) : PS X st u := ⟨fun pins s σ H D I q => h.run pins s σ H D I (w D σ H q)⟩
theorem _root_.L2.PSs.weak {X : Cx} {st : List Stmt} {t u : TS} (h : PSs X st t) (w : ∀ D σ H, u D σ H → t D σ H) : PSs X st u := ⟨fun pins s σ H D I q => h.run pins s σ H D I (w D σ H q)⟩
theorem _root_.L2.PG.weak {X : Cx} {e : Expr} {t u : TG} (h : PG X e t) (w : ∀ v σ H Q, u v σ H Q → t v σ H Q) : PG X e u := ⟨fun pins s σ H v z Q I r q => h.run pins s σ H v z Q I r (w v σ H Q q)⟩
theorem _root_.L2.PGs.weak {X : Cx} {e : List Expr} {t u : TGs} (h : PGs X e t) (w : ∀ v σ H Q, u v σ H Q → t v σ H Q) : PGs X e u := ⟨fun pins s σ H v z Q I r q => h.run pins s σ H v z Q I r (w v σ H Q q)⟩
abbrev G' := D → Rho → Mp → (Rho → Mp → Prop) → Prop
abbrev Gs' := List D → Rho → Mp → (Rho → Mp → Prop) → Prop
def liftG (K : PySem.W.Frag) (g : G') : TG := fun v σ H Q => ∃ d ρ M Q', Rep K H d v ∧ SimS K H σ ρ ∧ Sim K H M ∧ g d ρ M Q' ∧ ∀ ρ' M' σ' H', Q' ρ' M' → TX H H' → SimS K H' σ' ρ' → Sim K H' M' → Q σ' H'
def liftGs (K : PySem.W.Frag) (g : Gs') : TGs := fun v σ H Q => ∃ d ρ M Q', RepL K H d v ∧ SimS K H σ ρ ∧ Sim K H M ∧ g d ρ M Q' ∧ ∀ ρ' M' σ' H', Q' ρ' M' → TX H H' → SimS K H' σ' ρ' → Sim K H' M' → Q σ' H'
abbrev PG' (X : Cx) (e : Expr) (g : G') : Prop := PG X e (liftG X.K g)
abbrev PGs' (X : Cx) (e : List Expr) (g : Gs') : Prop := PGs X e (liftGs X.K g)
section
variable {X : Cx} {a b c e o i : Expr} {ta tb tc te to ti : E'} {pos : Pos} {st : Stmt} {sts : List Stmt} {t u : S'} {g : G'} {gs : Gs'}
def gName' (i : Nat) : G' := fun d ρ M Q => Q (ρ.set i (some d)) M
theorem pg_name' {i : Nat} {x : Str} (hN : X.N.Nodup) (hi : X.N[i]? = some x) (hx : Loc X.env.scope x) (hf : X.fn x = true ∨ X.env.scope.names.lookup x = some .local) : PG' X (.Name x pos) (gName' i) := (pg_name hN hi hx hf).weak (by
  rintro v σ H Q ⟨d, ρ, M, Q', r, hs, hm, h, k⟩
  exact k _ _ _ _ h TX.refl (hs.set r) hm)
def gNil' : Gs' := fun ds ρ M Q => ds = [] ∧ Q ρ M
def gCons' (g : G') (gs : Gs') : Gs' := fun ds ρ M Q => match ds with
  | d :: r => g d ρ M fun ρ1 M1 => gs r ρ1 M1 Q
  | [] => False
theorem pgs_nil' : PGs' X [] gNil' := pgs_nil.weak (by
  rintro v σ H Q ⟨d, ρ, M, Q', r, hs, hm, ⟨rfl, h⟩, k⟩
  unfold RepL at r
  exact ⟨r, k _ _ _ _ h TX.refl hs hm⟩)
theorem pgs_cons' {es : List Expr} (h1 : PG' X e g) (h2 : PGs' X es gs) (hs : (assignEach (e :: es) X.env).map (·.2) = assign e X.env :: (assignEach es X.env).map (·.2)) : PGs' X (e :: es) (gCons' g gs) := (pgs_cons h1 h2 hs).weak (by
  rintro v σ H Q ⟨d, ρ, M, Q', r, hs, hm, h, k⟩
  cases d with
  | nil => exact h.elim
  | cons d ds =>
    unfold RepL at r
    obtain ⟨w, rr, rfl, r1, r2⟩ := r
    exact ⟨w, rr, rfl, d, ρ, M, _, r1, hs, hm, h, fun ρ1 M1 σ1 H1 q tx s1 m1 => ⟨ds, ρ1, M1, Q', r2.mono tx, s1, m1, q, fun ρ' M' σ' H' q' tx' s' m' => k _ _ _ _ q' (tx.trans tx') s' m'⟩⟩)
def gTup' (n : Nat) (gs : Gs') : G' := fun d ρ M Q => match d with
  | .tup xs => xs.length = n ∧ gs xs ρ M Q
  | _ => False
theorem pg_tup' {es : List Expr} {k n : Nat} (hc : X.calm = true) (h : PGs' X es gs) (hn : (assignEach es X.env).length = n) (hst : (assignEach es X.env).findIdx? (·.1) = none) : PG' X (.Tuple es k pos) (gTup' n gs) := (pg_tup hc h hn hst).weak (by
  rintro v σ H Q ⟨d, ρ, M, Q', r, hs, hm, h, k⟩
  unfold gTup' at h
  split at h
  · rename_i xs
    obtain ⟨a, vs, rfl, q, rr⟩ := rep_tup r
    exact ⟨a, vs, rfl, q, by rw [rr.len]; exact h.1, xs, ρ, M, Q', rr, hs, hm, h.2, k⟩
  · exact h.elim)
/-- o[i] = d -/
def setR (o i d : D) (M : Mp) (Q : Mp → Prop) : Prop := match o, i with
  | .ref a, .int k => ∃ xs j, M a = some (.lst xs) ∧ ixN xs.length k = some j ∧ Q (put M a (.lst (xs.set j d)))
  | _, _ => False
def gSub' (to ti : E') : G' := fun d ρ M Q => to ρ M fun o M1 => ti ρ M1 fun i M2 => setR o i d M2 fun M3 => Q ρ M3
theorem put_lst {K : PySem.W.Frag} {H : Hp} {M : Mp} {a : Addr} {vs ws : List V} {ds : List D} (m : Sim K H M) (h : H a = some (.lst vs)) (r : RepL K H ds ws) : TX H (upd H a (.lst ws)) ∧ Sim K (upd H a (.lst ws)) (put M a (.lst ds)) :=
  ⟨TX.lst h, m.put (TX.lst h) (repO_lst (TX.lst h) r)⟩
theorem pg_sub' (ho : PE' X o to) (hi : PE' X i ti) (ha : ∀ v, assign (.Subscript o i pos) X.env v = (do
      let ov ← holding [v] (eval o X.env)
      let iv ← holding [v, ov] (eval i X.env)
      standAt pos
      holding [v, ov, iv] (setItem ov iv v)
      release [v, ov, iv] [])) : PG' X (.Subscript o i pos) (gSub' to ti) := (pg_sub ho hi set_list ha).weak (by
  rintro v σ H Q ⟨d, ρ, M, Q', r, hs, hm, h, k⟩
  refine ⟨ρ, M, _, hs, hm, h, fun od M1 ov H1 q1 tx1 m1 r1 => ⟨ρ, M1, _, hs.mono tx1, m1, q1, fun id M2 iv H2 q2 tx2 m2 r2 => ?_⟩⟩
  unfold setR at q2
  split at q2
  · rename_i a kk
    obtain ⟨xs, j, ma, ej, q⟩ := q2
    obtain ⟨vs, z, rr⟩ := m2 a _ ma
    obtain ⟨tx3, m3⟩ := put_lst m2 z (rr.set (r.mono (tx1.trans tx2)) j)
    exact ⟨a, vs, kk, j, rep_ref (r1.mono tx2), rep_int r2, z, by rw [rr.len]; exact ej, k _ _ _ _ q ((tx1.trans tx2).trans tx3) (hs.mono ((tx1.trans tx2).trans tx3)) m3⟩
  · exact q2.elim)

def asg' (te : E') (g : G') : S' := fun Z ρ M => te ρ M fun d M1 => g d ρ M1 Z.nx
theorem asgW {K : PySem.W.Frag} : ∀ (Z : Ends) σ H, liftS K (asg' te g) Z σ H → tAsg (liftE K te) (liftG K g) Z σ H := by
  rintro Z σ H ⟨ρ, M, D', hs, hm, h, k⟩
  exact ⟨ρ, M, _, hs, hm, h, fun d M1 v H1 q tx m1 r => ⟨d, ρ, M1, _, r, hs.mono tx, m1, q, fun ρ' M' σ' H' q' tx' s' m' => k.nx _ _ _ _ q' (tx.trans tx') s' m'⟩⟩
theorem ps_asg' {tg : Expr} (he : PE' X e te) (hg : PG' X tg g) (hs : swapsWithSole [tg] e pos.line X.env = pure false) (hw : swappedStores [tg] e X.env = pure none) (h1 : (assignEach [tg] X.env).map (·.2) = [assign tg X.env]) : PS' X (.Assign [tg] e pos) (asg' te g) :=
  (ps_asg he hg hs hw h1).weak asgW
theorem ps_set' {i : Nat} {x : Str} {pos' : Pos} (hN : X.N.Nodup) (hi : X.N[i]? = some x) (hx : Loc X.env.scope x) (he : PE' X e te) (hs : swapsWith e (some (.Name x pos')) pos.line X.env = pure false) (hf : X.fn x = true ∨ X.env.scope.names.lookup x = some .local) :
    PS' X (.Assign [.Name x pos'] e pos) (asg' te (gName' i)) := (ps_set hN hi hx he hs hf).weak (by
  rintro Z σ H ⟨ρ, M, D', hs, hm, h, k⟩
  exact ⟨ρ, M, _, hs, hm, h, fun d M1 v H1 q tx m1 r => k.nx _ _ _ _ q tx ((hs.mono tx).set r) m1⟩)
def next' : S' := fun Z ρ M => Z.nx ρ M
def seq' (t u : S') : S' := fun Z ρ M => t { Z with nx := Fg (u Z) } ρ M
theorem pss_nil' : PSs' X [] next' := pss_nil.weak (by
  rintro Z σ H ⟨ρ, M, D', hs, hm, h, k⟩
  exact k.nx _ _ _ _ h TX.refl hs hm)
theorem pss_cons' (h1 : PS' X st t) (h2 : PSs' X sts u) : PSs' X (st :: sts) (seq' t u) := (pss_cons h1 h2).weak (by
  rintro Z σ H ⟨ρ, M, D', hs, hm, h, k⟩
  exact ⟨ρ, M, _, hs, hm, h, ⟨fun ρ1 M1 σ1 H1 ⟨ρ0, M0, l1, l2, q⟩ tx s1 m1 => ⟨ρ0, M0, D', s1.le l1, m1.le l2, q, k.mono tx⟩, k.bk, k.ct, k.rt⟩⟩)
theorem ps_pass' : PS' X (.Pass pos) next' := ps_pass.weak (by
  rintro Z σ H ⟨ρ, M, D', hs, hm, h, k⟩
  exact k.nx _ _ _ _ h TX.refl hs hm)
theorem ps_break' : PS' X (.Break pos) (fun Z ρ M => Z.bk ρ M) := ps_break.weak (by
  rintro Z σ H ⟨ρ, M, D', hs, hm, h, k⟩
  exact k.bk _ _ _ _ h TX.refl hs hm)
theorem ps_cont' : PS' X (.Continue pos) (fun Z ρ M => Z.ct ρ M) := ps_continue.weak (by
  rintro Z σ H ⟨ρ, M, D', hs, hm, h, k⟩
  exact k.ct _ _ _ _ h TX.refl hs hm)
theorem ps_never' : PS' X st (fun _ _ _ => False) := ⟨fun _ _ _ _ _ _ h => by obtain ⟨_, _, _, _, _, z, _⟩ := h; exact z.elim⟩
theorem ps_expr' (he : PE' X e te) (hs : swapsWith e none pos.line X.env = pure false) : PS' X (.Expr e pos) (fun Z ρ M => te ρ M fun _ M1 => Z.nx ρ M1) := (ps_expr he hs).weak (by
  rintro Z σ H ⟨ρ, M, D', hs, hm, h, k⟩
  exact ⟨ρ, M, _, hs, hm, h, fun d M1 v H1 q tx m1 r => k.nx _ _ _ _ q tx (hs.mono tx) m1⟩)
theorem ps_ret' (he : PE' X e te) : PS' X (.Return (some e) pos) (fun Z ρ M => te ρ M Z.rt) := (ps_ret he).weak (by
  rintro Z σ H ⟨ρ, M, D', hs, hm, h, k⟩
  exact ⟨ρ, M, _, hs, hm, h, fun d M1 v H1 q tx m1 r => k.rt _ _ _ _ q tx m1 r⟩)
theorem ps_retN' : PS' X (.Return none pos) (fun Z ρ M => Z.rt .non M) := ps_retN.weak (by
  rintro Z σ H ⟨ρ, M, D', hs, hm, h, k⟩
  exact k.rt _ _ _ _ h TX.refl hm mk_non)
def if' (c : T') (t u : S') : S' := fun Z ρ M => c ρ M fun b M1 => if b = true then t Z ρ M1 else u Z ρ M1
theorem ps_if' {p q : List Stmt} {tc : T'} (hc : PT' X c tc) (ha : PSs' X p t) (hb : PSs' X q u) : PS' X (.If c p q pos) (if' tc t u) := (ps_if hc ha hb).weak (by
  rintro Z σ H ⟨ρ, M, D', hs, hm, h, k⟩
  refine ⟨ρ, M, _, hs, hm, h, fun z M1 H1 q tx m1 => ?_⟩
  cases z with
  | true =>
    rw [if_pos rfl] at q ⊢
    exact ⟨ρ, M1, D', hs.mono tx, m1, q, k.mono tx⟩
  | false =>
    rw [if_neg Bool.false_ne_true] at q ⊢
    exact ⟨ρ, M1, D', hs.mono tx, m1, q, k.mono tx⟩)
/-- while, by a word and a measure -/
def whl' (c : T') (tb : S') : S' := fun Z ρ M => ∃ W : Nat → Rho → Mp → Prop, (∃ m, W m ρ M) ∧ ∀ m ρ M, W m ρ M →
  c ρ M fun b M1 => if b = true then tb { Z with nx := fun ρ' M' => ∃ m', m' < m ∧ W m' ρ' M', ct := fun ρ' M' => ∃ m', m' < m ∧ W m' ρ' M', bk := Z.nx } ρ M1 else Z.nx ρ M1
theorem ps_while' {body : List Stmt} {tc : T'} (hp : PassesOwn (model X.prog X.w) X.A X.env X.xe) (hc : PT' X c tc) (hb : PSs' X body t) : PS' X (.While c body [] pos) (whl' tc t) := (ps_while hp hc hb).weak (by
  rintro Z σ H ⟨ρ, M, D', hs, hm, ⟨W, ⟨m0, w0⟩, turn⟩, k⟩
  refine ⟨fun m σ1 H1 => ∃ ρ M, SimS X.K H1 σ1 ρ ∧ Sim X.K H1 M ∧ W m ρ M ∧ TX H H1, ⟨m0, ρ, M, hs, hm, w0, TX.refl⟩, ?_⟩
  rintro m σ1 H1 ⟨ρ1, M1, s1, m1, w1, tx1⟩
  refine ⟨ρ1, M1, _, s1, m1, turn m ρ1 M1 w1, fun z M2 H2 q tx2 m2 => ?_⟩
  cases z with
  | true =>
    rw [if_pos rfl] at q ⊢
    refine ⟨fun σ' H' => ∃ ρ M, SimS X.K H' σ' ρ ∧ Sim X.K H' M ∧ (∃ m', m' < m ∧ W m' ρ M) ∧ TX H H', ?_, ρ1, M2, _, s1.mono tx2, m2, q, ?_⟩
    · rintro σ' H' ⟨ρ', M', s', mm', ⟨m', hl, w'⟩, tx'⟩
      exact ⟨m', hl, ρ', M', s', mm', w', tx'⟩
    · have tx := tx1.trans tx2
      exact ⟨fun ρ' M' σ' H' q' tx' s' m' => ⟨ρ', M', s', m', q', tx.trans tx'⟩, fun ρ' M' σ' H' q' tx' s' m' => k.nx _ _ _ _ q' (tx.trans tx') s' m', fun ρ' M' σ' H' q' tx' s' m' => ⟨ρ', M', s', m', q', tx.trans tx'⟩, fun d M' v H' q' tx' m' r' => k.rt _ _ _ _ q' (tx.trans tx') m' r'⟩
  | false =>
    rw [if_neg Bool.false_ne_true] at q ⊢
    exact k.nx _ _ _ _ q (tx1.trans tx2) (s1.mono tx2) m2)

/-! ### what is walked -/
/-- lists that stand still -/
abbrev Stay := List (Addr × List D)
def StayH (K : PySem.W.Frag) (H : Hp) (y : Stay) : Prop := ∀ p ∈ y, ∃ vs, H p.1 = some (.lst vs) ∧ RepL K H p.2 vs
def StayM (M : Mp) : Stay → Prop
  | [] => True
  | (a, ds) :: y => M a = some (.lst ds) ∧ StayM M y
theorem StayM.h {K : PySem.W.Frag} {H : Hp} {M : Mp} (m : Sim K H M) : ∀ {y : Stay}, StayM M y → StayH K H y
  | [], _ => fun p hp => by simp at hp
  | (a, ds) :: y, h => fun p hp => by
    rcases List.mem_cons.mp hp with rfl | hp
    · exact m.lst h.1
    · exact StayM.h m h.2 p hp
structure ItOk (K : PySem.W.Frag) (J : It) (H0 : Hp) (items : List D) (y : Stay) : Prop where
  go : ∀ i H, TX H0 H → StayH K H y → i < items.length → J.go i H
  yld : ∀ i H x H', TX H0 H → StayH K H y → i < items.length → J.yld i H x H' → ∃ d, items[i]? = some d ∧ Rep K H' d x ∧ TX H H' ∧ ∀ M, Sim K H M → Sim K H' M
  stop : ∀ H, TX H0 H → StayH K H y → J.stop items.length H
abbrev I' := Rho → Mp → (List D → Stay → Mp → Prop) → Prop
def liftI (K : PySem.W.Frag) (t : I') : TI := fun σ H R => ∃ ρ M Q', SimS K H σ ρ ∧ Sim K H M ∧ t ρ M Q' ∧ ∀ ds y M' J H', Q' ds y M' → TX H H' → Sim K H' M' → ItOk K J H' ds y → R J H'
abbrev PI' (X : Cx) (tg iter : Expr) (t : I') : Prop := PI X tg iter (liftI X.K t)
theorem _root_.L2.PI.weak {X : Cx} {tg it : Expr} {t u : TI} (h : PI X tg it t) (w : ∀ σ H R, u σ H R → t σ H R) : PI X tg it u := ⟨fun pins s σ H R I q => h.run pins s σ H R I (w σ H R q)⟩
/-- the turns of a for -/
def wFor (y : Stay) (g : G') (tb : S') (Z : Ends') : List D → Rho → Mp → Prop
  | [], ρ, M => StayM M y ∧ Z.nx ρ M
  | x :: xs, ρ, M => StayM M y ∧ g x ρ M fun ρ1 M1 => tb { Z with nx := wFor y g tb Z xs, ct := wFor y g tb Z xs, bk := Z.nx } ρ1 M1
def for' (wi : I') (g : G') (tb : S') : S' := fun Z ρ M => wi ρ M fun ds y M1 => wFor y g tb Z ds ρ M1
theorem ps_for' {tg iter : Expr} {body : List Stmt} {wi : I'} {tb : S'} (hp : PassesOwn (model X.prog X.w) X.A X.env X.xe) (hc : X.calm = true) (hi : PI' X tg iter wi) (hg : PG' X tg g) (hb : PSs' X body tb) (hs : ∀ x, foldedSetIterable iter X.env x = pure x) :
    PS' X (.For tg iter body [] pos) (for' wi g tb) := (ps_for hp hc hi hg hb hs).weak (by
  rintro Z σ H ⟨ρ, M, D', hs, hm, h, k⟩
  refine ⟨ρ, M, _, hs, hm, h, fun ds y M1 J H1 q tx1 m1 ok => ?_⟩
  refine ⟨fun i m σ2 H2 => m = ds.length - i ∧ i ≤ ds.length ∧ ∃ ρ M, SimS X.K H2 σ2 ρ ∧ Sim X.K H2 M ∧ TX H1 H2 ∧ wFor y g tb D' (ds.drop i) ρ M, ⟨_, rfl, Nat.zero_le _, ρ, M1, hs.mono tx1, m1, TX.refl, by simpa using q⟩, ?_⟩
  rintro i m σ2 H2 ⟨rfl, hi, ρ2, M2, s2, m2, tx2, w2⟩
  by_cases hl : i < ds.length
  · rw [List.drop_eq_getElem_cons hl] at w2
    obtain ⟨sy, w2⟩ := w2
    have sh := sy.h m2
    refine .inr ⟨ok.go i H2 tx2 sh hl, fun σ' H' => ∃ ρ M, SimS X.K H' σ' ρ ∧ Sim X.K H' M ∧ TX H1 H' ∧ wFor y g tb D' (ds.drop (i + 1)) ρ M, ?_, ?_⟩
    · rintro σ' H' ⟨ρ', M', s', m', tx', w'⟩
      exact ⟨ds.length - (i + 1), by omega, rfl, hl, ρ', M', s', m', tx', w'⟩
    · intro x H3 hy
      obtain ⟨d, ed, rd, tx3, mm⟩ := ok.yld i H2 x H3 tx2 sh hl hy
      rw [List.getElem?_eq_getElem hl] at ed
      cases ed
      have m3 := mm M2 m2
      refine ⟨_, ρ2, M2, _, rd, s2.mono tx3, m3, w2, fun ρ4 M4 σ4 H4 q4 tx4 s4 m4 => ⟨ρ4, M4, _, s4, m4, q4, ?_⟩⟩
      have txa := (tx2.trans tx3).trans tx4
      exact ⟨fun ρ' M' σ' H' q' tx' s' m' => ⟨ρ', M', s', m', txa.trans tx', q'⟩, fun ρ' M' σ' H' q' tx' s' m' => k.nx _ _ _ _ q' ((tx1.trans txa).trans tx') s' m', fun ρ' M' σ' H' q' tx' s' m' => ⟨ρ', M', s', m', txa.trans tx', q'⟩, fun d M' v H' q' tx' m' r' => k.rt _ _ _ _ q' ((tx1.trans txa).trans tx') m' r'⟩
  · have e : i = ds.length := by omega
    subst e
    rw [List.drop_length] at w2
    obtain ⟨sy, w2⟩ := w2
    exact .inl ⟨ok.stop H2 tx2 (sy.h m2), k.nx _ _ _ _ w2 (tx1.trans tx2) s2 m2⟩)
end
end Pw
set_option Elab.async false
set_option linter.all false
set_option maxRecDepth 100000
set_option maxHeartbeats 4000000
/-! enumerate over a tuple -/
namespace PySem
open Sem (wp)
open AutoSeq1 (wpAny_loadPart')
theorem pw_enum_new {v : Value} {o : Obj} {H : Heap → Prop} (B : Begins v o H) :
    Meets (Builtin.«enumerate.__new__» ⟨[.type "enumerate", v], []⟩) (fun _ R s => H s.heap ∧
      R (.ok (.ret (.ref (s.heap.push o).objs.size))) { s with heap := (s.heap.push o).push { cls := .type "enumerate", data := .fields #[.none, .bool false, .ref s.heap.objs.size, rawInt 0, .none, .none] } }) :=
  .of_wp fun prog w A R s hyp => by
    obtain ⟨hp, g, d, tk, os⟩ := s
    obtain ⟨hH, hyp⟩ := hyp
    have hsub := sub_enumerate
    have walk1 : ∀ {A' : Around} {E : Value → Shared → Prop} {Q : Value → Shared → Prop}, Q (.ref hp.objs.size) ⟨hp.push o, g, d, tk, os⟩ → wpAny (model prog w) A' (pyIter v) Q E ⟨hp, g, d, tk, os⟩ :=
      fun z => B.iter prog w _ _ ⟨hp, g, d, tk, os⟩ _ hH z
    wp_walk using walk1
    refine wpAny_stack_any fun st => wpAny_pure ?_
    split
    · rename_i c _ _ _ _ _
      cases (c == Value.type "enumerate") <;> (wp_walk using walk1; exact ⟨_, rfl, hyp⟩)
    · wp_walk using walk1
      exact ⟨_, rfl, hyp⟩
section
variable {prog : Program} {w : World} {A : Around} {E : Value → Shared → Prop} {s : Shared}
theorem pw_enum_begins {v : Value} {o : Obj} {H : Heap → Prop} {Q : Value → Shared → Prop} (B : Begins v o H) (hH : H s.heap)
    (k : ∀ h', IsEnum h' (s.heap.objs.size + 1) s.heap.objs.size 0 .none → h'.get? s.heap.objs.size = some o →
      (∀ b u, s.heap.get? b = some u → h'.get? b = some u) → Q (.ref (s.heap.objs.size + 1)) { s with heap := h' }) :
    wpAny (model prog w) A (call (.type "enumerate") [v]) Q E s := by
  refine callType_new F.called_enumerate (by decide) (F.typeCall_enumerate_1 _) (F.newCall_enumerate_1 _) (fun obj => F.args_object_init_2 obj _) F.entry_enumerate_new (pw_enum_new B) ⟨hH, ?_⟩
  have sz : (s.heap.push o).objs.size = s.heap.objs.size + 1 := Heap.size_push ..
  show _ ∧ _
  rw [sz]
  have isE : IsEnum ((s.heap.push o).push { cls := .type "enumerate", data := .fields #[.none, .bool false, .ref s.heap.objs.size, rawInt 0, .none, .none] }) (s.heap.objs.size + 1) s.heap.objs.size 0 .none := by
    have z := Heap.get?_push_size (s.heap.push o) (o := { cls := .type "enumerate", data := .fields #[.none, .bool false, .ref s.heap.objs.size, rawInt 0, .none, .none] }) rfl
    rw [sz] at z; exact z
  exact ⟨⟨_, isE, rfl⟩, k _ isE (Heap.get?_push_of_some _ (Heap.get?_push_size _ B.free)) fun b u x => Heap.get?_push_of_some _ (Heap.get?_push_of_some _ x)⟩
end
end PySem
namespace Pw
open PySem PySem.Spec PyProof.Rows L2
/-- enumerate of the tuple at a -/
def IteT (K : PySem.W.Frag) (a : Addr) : It where
  go := fun i H => ∃ (xs : List V) (x : V), SqT K H a xs ∧ xs[i]? = some x
  yld := fun i H v H' => ∃ T x, v = .ref T ∧ H T = none ∧ H' = upd H T (.tup [.int (i : Nat), x]) ∧ ∀ xs, SqT K H a xs → xs[i]? = some x
  stop := fun i H => ∃ xs : List V, SqT K H a xs ∧ xs.length = i
theorem turn_enumT {P : Program} {w : World} {K : PySem.W.Frag} {elts : List Expr} {kk : Nat} {tpos : Pos} (a e it : Addr) :
    Turn P w K (.Tuple elts kk tpos) (IteT K a) [e, it] e (fun i h => (∃ old, IsEnum h e it ((i : Nat) : Int) old) ∧ h.IsTupleIter it a i ∧ e ≠ it ∧ a ≠ it ∧ a ≠ e) where
  mem := by simp
  obj := fun i h st b hb => by
    obtain ⟨⟨old, he⟩, ⟨o, ho, hc, hd⟩, _⟩ := st
    have e' : b = e ∨ b = it := by simpa using hb
    rcases e' with z | z
    · rw [z]; exact ⟨_, he, fun v q => nomatch q⟩
    · rw [z]; exact ⟨o, ho, fun v q => by rw [hd] at q; cases q⟩
  keep := fun i h h' st k => let ⟨⟨old, he⟩, hi, hne⟩ := st; ⟨⟨old, k e (by simp) _ he⟩, hi.at fun o q => k it (by simp) o q, hne⟩
  item := by
    intro X hP hw hK hc i pins s σ H E I hf st hg
    subst hP hw hK
    obtain ⟨⟨old, he⟩, hit, hne, hai, hae⟩ := st
    obtain ⟨xs, x, hq, hx⟩ := hg
    obtain ⟨its, rv, p, hz⟩ := I.tuple hq
    obtain ⟨u, hu, ru⟩ := rv.get hx
    have hel : e < s.heap.objs.size := Heap.lt_size he
    have hil : it < s.heap.objs.size := by obtain ⟨_, q, _⟩ := hit; exact Heap.lt_size q
    have hil2 : i < its.toArray.size := by rw [List.size_toArray]; exact (List.getElem?_eq_some_iff.mp hu).1
    refine wpAny_pyNext_enum_itemD (Draws.tuple (A := X.A.in1) (I.ok.hd hc) it a hai its.toArray) he ⟨hit, p⟩ hil2 hne (by simp [hne, Ne.symm hae]) fun z h' tk hzx ho hst hT hsz hk => ?_
    have ez : z = u := by
      have q : its.toArray[i]? = some u := by simpa using hu
      rw [hzx] at q; exact Option.some.inj q
    subst ez
    refine ⟨_, rfl, wpAny_letOwnedTupleGo_enum (s := { s with heap := h', toks := tk + 1 }) ho fun h'' he' sb => ?_⟩
    have hT2 : h''.get? s.heap.objs.size = some { cls := .type "tuple", data := .seq #[.int i tk, z] } := (sb.2 _ (Nat.ne_of_gt hel)).trans hT
    have new : ObjOk X.prog X.w (upd H s.heap.objs.size (.tup [.int (i : Nat), x])) h'' s.heap.objs.size (.tup [.int (i : Nat), x]) :=
      ⟨by show 2 ≤ sizeLine; decide, [.int i tk, z], .cons ⟨_, rfl⟩ (.cons ru .nil), ⟨_, hT2, rfl, _, rfl⟩⟩
    have I1 : Inv X pins σ (upd H s.heap.objs.size (.tup [.int (i : Nat), x])) { s with heap := h'', toks := tk + 1 } :=
      I.turnedNew (ch := [e, it]) (fun b ob hb q => (sb.2 b (fun y => hb (by simp [y]))).trans (hk b ob (fun y => hb (by simp [y])) (fun y => hb (by simp [y])) q)) hf (Nat.le_refl _) new
    refine ⟨.ref s.heap.objs.size, _, I1, rfl, ⟨_, x, rfl, I.hok.fresh (Nat.le_refl _), rfl, fun ys hy => by rw [I.tuple_inj hy hq]; exact hx⟩, ⟨⟨z, ?_⟩, hst.1.at fun o q => (sb.2 it (Ne.symm hne)).trans q, hne, hai, hae⟩, fun b hb => ?_⟩
    · have e1 : ((i + 1 : Nat) : Int) = (i : Int) + 1 := by omega
      rw [e1]; exact he'
    · have hb' : b < s.heap.objs.size := by
        have e' : b = e ∨ b = it := by simpa using hb
        rcases e' with y | y
        · rw [y]; exact hel
        · rw [y]; exact hil
      rw [upd_ne (Nat.ne_of_lt hb')]
      exact (hf b hb).1
  done := by
    intro X hP hw hK hc i pins s σ H E I hf st hg
    subst hP hw hK
    obtain ⟨⟨old, he⟩, hit, hne, hai, hae⟩ := st
    obtain ⟨xs, hq, hx⟩ := hg
    obtain ⟨its, rv, p, hz⟩ := I.tuple hq
    obtain ⟨f0, f1, f2, f3, f4, f5⟩ := hf it (by simp)
    have hl := rv.length
    have hn : i = its.toArray.size := by rw [List.size_toArray]; omega
    subst hn
    exact wpAny_pyNext_enum_endD (Draws.tuple (A := X.A.in1) (I.ok.hd hc) it a hai its.toArray) he ⟨hit, p⟩ fun h' eb => ⟨rfl, I.turned (t' := s.toks) (fun b o hb q => eb b o hb q) f0 f1 f3 f4 f5⟩
  self := fun A i s Q E st h => let ⟨⟨_, he⟩, _⟩ := st; wpAny_pyIter_enum he h

/-! ### sources -/
section
variable {X : Cx} {tg a b e : Expr} {ta tb : E'} {pos p : Pos}
/-- what an iterator of a tuple's items is, of the items ds -/
theorem ok_Itt {K : PySem.W.Frag} {H0 : Hp} {a : Addr} {vs : List V} {ds : List D} (h : SqT K H0 a vs) (r : RepL K H0 ds vs) : ItOk K (Itt K a) H0 ds [] where
  go := fun i H tx _ hl => by
    have hv : i < vs.length := by rw [r.len]; exact hl
    exact ⟨vs, vs[i], tx.seqT h, by simp [hv]⟩
  yld := fun i H x H' tx _ hl y => by
    obtain ⟨rfl, y⟩ := y
    have e := y vs (tx.seqT h)
    obtain ⟨d, ed, rd⟩ := (r.mono tx).getV e
    exact ⟨d, ed, rd, TX.refl, fun _ m => m⟩
  stop := fun H tx _ => ⟨vs, tx.seqT h, by rw [r.len]; exact Nat.le_refl _⟩
theorem ok_Itl {K : PySem.W.Frag} {H0 : Hp} {a : Addr} {ds : List D} : ItOk K (Itl K a) H0 ds [(a, ds)] where
  go := fun i H tx sy hl => by
    obtain ⟨vs, z, r⟩ := sy (a, ds) (by simp)
    have hv : i < vs.length := by rw [r.len]; exact hl
    exact ⟨vs, vs[i], SqL.of z, by simp [hv]⟩
  yld := fun i H x H' tx sy hl y => by
    obtain ⟨vs, z, r⟩ := sy (a, ds) (by simp)
    obtain ⟨rfl, y⟩ := y
    obtain ⟨d, ed, rd⟩ := r.getV (y vs (SqL.of z))
    exact ⟨d, ed, rd, TX.refl, fun _ m => m⟩
  stop := fun H tx sy => by
    obtain ⟨vs, z, r⟩ := sy (a, ds) (by simp)
    exact ⟨vs, SqL.of z, by rw [r.len]; exact Nat.le_refl _⟩
def sgn (c : Nat) : Str := ⟨#[c]⟩
theorem ok_Its {K : PySem.W.Frag} {H0 : Hp} {x : Str} : ItOk K (Its x) H0 (x.cps.toList.map fun c => D.str (sgn c)) [] where
  go := fun i H tx sy hl => by show i < x.cps.size; simpa using hl
  yld := fun i H x' H' tx sy hl y => by
    obtain ⟨rfl, c, ec, rfl⟩ := y
    refine ⟨.str (sgn c), ?_, mk_str, TX.refl, fun _ m => m⟩
    rw [List.getElem?_map, Array.getElem?_toList, ec]; rfl
  stop := fun H tx sy => by show x.cps.size ≤ _; simp
theorem ok_Itr {K : PySem.W.Frag} {H0 : Hp} {lo : Int} {n : Nat} : ItOk K (Itr lo n) H0 ((List.range n).map fun (k : Nat) => D.int (lo + (k : Int))) [] where
  go := fun i H tx sy hl => by show i < n; simpa using hl
  yld := fun i H x' H' tx sy hl y => by
    obtain ⟨rfl, rfl⟩ := y
    have hn : i < n := by simpa using hl
    exact ⟨.int (lo + i), by simp [hn], mk_int, TX.refl, fun _ m => m⟩
  stop := fun H tx sy => by show n ≤ _; simp
theorem ok_Itc {K : PySem.W.Frag} {H0 : Hp} {lo c : Int} {n : Nat} : ItOk K (Itc lo c n) H0 ((List.range n).map fun (k : Nat) => D.int (lo + (k : Int) * c)) [] where
  go := fun i H tx sy hl => by show i < n; simpa using hl
  yld := fun i H x' H' tx sy hl y => by
    obtain ⟨rfl, rfl⟩ := y
    have hn : i < n := by simpa using hl
    exact ⟨.int (lo + (i : Nat) * c), by simp [hn], mk_int, TX.refl, fun _ m => m⟩
  stop := fun H tx sy => by show n ≤ _; simp
def enumD (ds : List D) : List D := ds.zipIdx.map fun p => D.tup [.int (p.2 : Nat), p.1]
theorem enumD_get {ds : List D} {i : Nat} {d : D} (h : ds[i]? = some d) : (enumD ds)[i]? = some (.tup [.int (i : Nat), d]) := by
  unfold enumD
  rw [List.getElem?_map, List.getElem?_zipIdx, h]; simp
theorem enumD_length (ds : List D) : (enumD ds).length = ds.length := by simp [enumD]
theorem ok_Ite {K : PySem.W.Frag} {H0 : Hp} {a : Addr} {ds : List D} : ItOk K (Ite K a) H0 (enumD ds) [(a, ds)] where
  go := fun i H tx sy hl => by
    obtain ⟨vs, z, r⟩ := sy (a, ds) (by simp)
    have hv : i < vs.length := by rw [r.len, ← enumD_length ds]; exact hl
    exact ⟨vs, vs[i], SqL.of z, by simp [hv]⟩
  yld := fun i H x H' tx sy hl y => by
    obtain ⟨vs, z, r⟩ := sy (a, ds) (by simp)
    obtain ⟨T, w, rfl, n, rfl, y⟩ := y
    obtain ⟨d, ed, rd⟩ := r.getV (y vs (SqL.of z))
    exact ⟨_, enumD_get ed, new_tup n (repL_cons mk_int (repL_cons rd repL_nil)), TX.new n, fun M m => m.new n⟩
  stop := fun H tx sy => by
    obtain ⟨vs, z, r⟩ := sy (a, ds) (by simp)
    exact ⟨vs, SqL.of z, by rw [r.len, enumD_length]; exact Nat.le_refl _⟩
theorem ok_IteT {K : PySem.W.Frag} {H0 : Hp} {a : Addr} {vs : List V} {ds : List D} (h : SqT K H0 a vs) (r : RepL K H0 ds vs) : ItOk K (IteT K a) H0 (enumD ds) [] where
  go := fun i H tx _ hl => by
    have hv : i < vs.length := by rw [r.len, ← enumD_length ds]; exact hl
    exact ⟨vs, vs[i], tx.seqT h, by simp [hv]⟩
  yld := fun i H x H' tx _ hl y => by
    obtain ⟨T, w, rfl, n, rfl, y⟩ := y
    obtain ⟨d, ed, rd⟩ := (r.mono tx).getV (y vs (tx.seqT h))
    exact ⟨_, enumD_get ed, new_tup n (repL_cons mk_int (repL_cons rd repL_nil)), TX.new n, fun M m => m.new n⟩
  stop := fun H tx _ => ⟨vs, tx.seqT h, by rw [r.len, enumD_length]⟩
def zipD (xs ys : List D) : List D := (xs.zip ys).map fun p => D.tup [p.1, p.2]
theorem zipD_length (xs ys : List D) : (zipD xs ys).length = min xs.length ys.length := by simp [zipD]
theorem zipD_get {xs ys : List D} {i : Nat} {d e : D} (h : xs[i]? = some d) (h2 : ys[i]? = some e) : (zipD xs ys)[i]? = some (.tup [d, e]) := by
  unfold zipD
  rw [List.getElem?_map]
  have : (xs.zip ys)[i]? = some (d, e) := by rw [List.getElem?_zip_eq_some]; exact ⟨h, h2⟩
  rw [this]; rfl
theorem ok_Itz {K : PySem.W.Frag} {H0 : Hp} {a b : Addr} {ds es : List D} : ItOk K (Itz K a b) H0 (zipD ds es) [(a, ds), (b, es)] where
  go := fun i H tx sy hl => by
    obtain ⟨vs, z, r⟩ := sy (a, ds) (by simp)
    obtain ⟨us, z2, r2⟩ := sy (b, es) (by simp)
    rw [zipD_length] at hl
    have hv : i < vs.length := by have q := r.len; (try simp only at q); omega
    have hu : i < us.length := by have q := r2.len; (try simp only at q); omega
    exact ⟨vs, us, vs[i], us[i], SqL.of z, SqL.of z2, by simp [hv], by simp [hu]⟩
  yld := fun i H x H' tx sy hl y => by
    obtain ⟨vs, z, r⟩ := sy (a, ds) (by simp)
    obtain ⟨us, z2, r2⟩ := sy (b, es) (by simp)
    obtain ⟨T, w, w2, rfl, n, rfl, y1, y2⟩ := y
    obtain ⟨d, ed, rd⟩ := r.getV (y1 vs (SqL.of z))
    obtain ⟨d2, ed2, rd2⟩ := r2.getV (y2 us (SqL.of z2))
    exact ⟨_, zipD_get ed ed2, new_tup n (repL_cons rd (repL_cons rd2 repL_nil)), TX.new n, fun M m => m.new n⟩
  stop := fun H tx sy => by
    obtain ⟨vs, z, r⟩ := sy (a, ds) (by simp)
    obtain ⟨us, z2, r2⟩ := sy (b, es) (by simp)
    exact ⟨vs, us, SqL.of z, SqL.of z2, by have q := r.len; have q2 := r2.len; (try simp only at q q2); rw [zipD_length]; omega⟩
theorem ok_ItzT {K : PySem.W.Frag} {H0 : Hp} {a b : Addr} {vs us : List V} {ds es : List D} (h : SqT K H0 a vs) (r : RepL K H0 ds vs) (h2 : SqT K H0 b us) (r2 : RepL K H0 es us) : ItOk K (RZ.ItzT K a b) H0 (zipD ds es) [] where
  go := fun i H tx sy hl => by
    rw [zipD_length] at hl
    have hv : i < vs.length := by have q := r.len; (try simp only at q); omega
    have hu : i < us.length := by have q := r2.len; (try simp only at q); omega
    exact ⟨vs, us, vs[i], us[i], tx.seqT h, tx.seqT h2, by simp [hv], by simp [hu]⟩
  yld := fun i H x H' tx sy hl y => by
    obtain ⟨T, w, w2, rfl, n, rfl, y1, y2⟩ := y
    obtain ⟨d, ed, rd⟩ := (r.mono tx).getV (y1 vs (tx.seqT h))
    obtain ⟨d2, ed2, rd2⟩ := (r2.mono tx).getV (y2 us (tx.seqT h2))
    exact ⟨_, zipD_get ed ed2, new_tup n (repL_cons rd (repL_cons rd2 repL_nil)), TX.new n, fun M m => m.new n⟩
  stop := fun H tx sy => ⟨vs, us, tx.seqT h, tx.seqT h2, by have q := r.len; have q2 := r2.len; (try simp only at q q2); rw [zipD_length]; omega⟩
theorem rev_get {ds : List D} {i : Nat} {d : D} (hi : i < ds.length) (h : ds[ds.length - 1 - i]? = some d) : ds.reverse[i]? = some d := by
  rw [List.getElem?_reverse hi]; exact h
theorem ok_Itv {K : PySem.W.Frag} {H0 : Hp} {a : Addr} {ds : List D} : ItOk K (Itv K a ds.length) H0 ds.reverse [(a, ds)] where
  go := fun i H tx sy hl => by
    obtain ⟨vs, z, r⟩ := sy (a, ds) (by simp)
    have hl' : i < ds.length := by simpa using hl
    have hv : ds.length - 1 - i < vs.length := by have q := r.len; (try simp only at q); omega
    exact ⟨hl', vs, vs[ds.length - 1 - i], SqL.of z, by simp [hv]⟩
  yld := fun i H x H' tx sy hl y => by
    obtain ⟨vs, z, r⟩ := sy (a, ds) (by simp)
    have hl' : i < ds.length := by simpa using hl
    obtain ⟨rfl, y⟩ := y
    obtain ⟨d, ed, rd⟩ := r.getV (y vs (SqL.of z))
    exact ⟨d, rev_get hl' ed, rd, TX.refl, fun _ m => m⟩
  stop := fun H tx sy => by show ds.length ≤ _; simp
theorem ok_ItvT {K : PySem.W.Frag} {H0 : Hp} {a : Addr} {vs : List V} {ds : List D} (h : SqT K H0 a vs) (r : RepL K H0 ds vs) : ItOk K (RT.ItvT K a ds.length) H0 ds.reverse [] where
  go := fun i H tx sy hl => by
    have hl' : i < ds.length := by simpa using hl
    have hv : ds.length - 1 - i < vs.length := by have q := r.len; (try simp only at q); omega
    exact ⟨hl', vs, vs[ds.length - 1 - i], tx.seqT h, by simp [hv]⟩
  yld := fun i H x H' tx sy hl y => by
    have hl' : i < ds.length := by simpa using hl
    obtain ⟨rfl, y⟩ := y
    obtain ⟨d, ed, rd⟩ := (r.mono tx).getV (y vs (tx.seqT h))
    exact ⟨d, rev_get hl' ed, rd, TX.refl, fun _ m => m⟩
  stop := fun H tx sy => by show ds.length ≤ _; simp
/-- the items of a value -/
def itemsOf (d : D) (M : Mp) (Q : List D → Stay → Mp → Prop) : Prop := match d with
  | .tup xs => Q xs [] M
  | .ref a => ∃ xs, M a = some (.lst xs) ∧ Q xs [(a, xs)] M
  | .str x => Q (x.cps.toList.map fun c => D.str (sgn c)) [] M
  | _ => False
def iVal' (ta : E') : I' := fun ρ M Q => ta ρ M fun d M1 => itemsOf d M1 Q
theorem pi_val' (ha : PE' X a ta) : PI' X tg a (iVal' ta) := by
  refine ⟨fun pins s σ H R I h => ?_⟩
  obtain ⟨ρ, M, Q', hs, hm, h, k⟩ := h
  refine thn (ha.run pins s σ H (fun v H1 => ∃ d M1, itemsOf d M1 Q' ∧ TX H H1 ∧ Sim X.K H1 M1 ∧ Rep X.K H1 d v) I ⟨ρ, M, _, hs, hm, h, fun d M1 v H1 q tx m1 r => ⟨d, M1, q, tx, m1, r⟩⟩) fun u s1 hh => ?_
  obtain ⟨v, H1, I1, rv, d, M1, q, tx, m1, r⟩ := hh
  unfold itemsOf at q
  split at q
  · rename_i xs
    obtain ⟨a, vs, rfl, hq, rr⟩ := rep_tup r
    cases rv
    obtain ⟨its, rv, pl, hz⟩ := I1.tuple hq
    exact wpAny_pyIter_tuple (show s1.heap.IsTuple a its.toArray from pl) (pi_one (tk := s1.toks) I1 _ (turn_tuple a _) ⟨_, Heap.get?_push_size _ rfl, rfl, rfl⟩ (k _ _ _ _ _ q tx m1 (ok_Itt hq rr)))
  · rename_i a
    obtain ⟨xs, ma, q⟩ := q
    rw [rep_ref r] at rv
    cases rv
    obtain ⟨vs, z, rr⟩ := m1 a _ ma
    obtain ⟨its, rv, pl, hz⟩ := I1.list (SqL.of z)
    exact wpAny_pyIter_list pl.isList (pi_one (tk := s1.toks) I1 _ (turn_list a _) ⟨_, Heap.get?_push_size _ rfl, rfl, rfl⟩ (k _ _ _ _ _ q tx m1 ok_Itl))
  · rename_i x
    rw [rep_str r] at rv
    obtain ⟨t, rfl⟩ := rv
    cases hb : x.cps.all (· < 128)
    · exact wpAny_pyIter_wide hb (pi_one (tk := s1.toks) I1 _ (turn_str _ x t "str_iterator" (.inr rfl)) ⟨_, Heap.get?_push_size _ rfl, rfl, rfl⟩ (k _ _ _ _ _ q tx m1 ok_Its))
    · exact wpAny_pyIter_ascii hb (pi_one (tk := s1.toks) I1 _ (turn_str _ x t "str_ascii_iterator" (.inl rfl)) ⟨_, Heap.get?_push_size _ rfl, rfl, rfl⟩ (k _ _ _ _ _ q tx m1 ok_Its))
  · exact q.elim
def small62 (i : Int) : Prop := -(2 ^ 62) ≤ i ∧ i < 2 ^ 62
def iRng1' (t : A') : I' := fun ρ M Q => t ρ M fun ds M1 => match ds with
  | [.int j] => small62 j ∧ Q ((List.range j.toNat).map fun (k : Nat) => D.int (0 + (k : Int))) [] M1
  | _ => False
def iRng2' (t : A') : I' := fun ρ M Q => t ρ M fun ds M1 => match ds with
  | [.int i, .int j] => small62 i ∧ small62 j ∧ Q ((List.range (j - i).toNat).map fun (k : Nat) => D.int (i + (k : Int))) [] M1
  | _ => False
def iRng3' (t : A') : I' := fun ρ M Q => t ρ M fun ds M1 => match ds with
  | [.int i, .int j, .int c] => c = -1 ∧ small62 i ∧ small62 j ∧ Q ((List.range (i - j).toNat).map fun (k : Nat) => D.int (i + (k : Int) * (-1))) [] M1
  | _ => False
variable {t : A'}
theorem pi_rng1' (hg : Gl X "range") (hm : X.mg "range" = none) (ha : PA' X [a] t) (hs : starEach [a] X.env = [(false, eval a X.env)]) : PI' X tg (.Call (.Name "range" p) [a] [] pos) (iRng1' t) := (pi_range1 hg hm ha hs).weak (by
  rintro σ H R ⟨ρ, M, Q', hs, hm, h, k⟩
  refine ⟨ρ, M, _, hs, hm, h, fun ds M1 vs H1 q tx m1 r => ?_⟩
  split at q
  · rename_i j
    obtain ⟨v, rfl, r1⟩ := repL1 r
    rw [rep_int r1]
    exact ⟨j, rfl, q.1.1, q.1.2, k _ _ _ _ _ q.2 tx m1 ok_Itr⟩
  · exact q.elim)
theorem pi_rng2' (hg : Gl X "range") (hm : X.mg "range" = none) (ha : PA' X [a, b] t) (hs : starEach [a, b] X.env = [(false, eval a X.env), (false, eval b X.env)]) (hs2 : starEach [b] X.env = [(false, eval b X.env)]) : PI' X tg (.Call (.Name "range" p) [a, b] [] pos) (iRng2' t) := (pi_range2 hg hm ha hs hs2).weak (by
  rintro σ H R ⟨ρ, M, Q', hs, hm, h, k⟩
  refine ⟨ρ, M, _, hs, hm, h, fun ds M1 vs H1 q tx m1 r => ?_⟩
  split at q
  · rename_i i j
    obtain ⟨v, u, rfl, r1, r2⟩ := repL2 r
    rw [rep_int r1, rep_int r2]
    exact ⟨i, j, rfl, ⟨q.1.1, q.1.2, q.2.1.1, q.2.1.2⟩, k _ _ _ _ _ q.2.2 tx m1 ok_Itr⟩
  · exact q.elim)
variable {c : Expr}
theorem pi_rng3' (hg : Gl X "range") (hm : X.mg "range" = none) (ha : PA' X [a, b, c] t) (hs : starEach [a, b, c] X.env = (false, eval a X.env) :: starEach [b, c] X.env) (hpl : (backTo pos (starEach [b, c] X.env)).any (·.1) = false) : PI' X tg (.Call (.Name "range" p) [a, b, c] [] pos) (iRng3' t) := (pi_range3 hg hm ha hs hpl).weak (by
  rintro σ H R ⟨ρ, M, Q', hs, hm, h, k⟩
  refine ⟨ρ, M, _, hs, hm, h, fun ds M1 vs H1 q tx m1 r => ?_⟩
  split at q
  · rename_i i j c
    unfold RepL at r
    obtain ⟨v, rs, rfl, r0, r⟩ := r
    obtain ⟨u, w, rfl, r1, r2⟩ := repL2 r
    rw [rep_int r0, rep_int r1, rep_int r2]
    obtain ⟨rfl, h1, h2, q⟩ := q
    exact ⟨i, j, -1, (i - j).toNat, rfl, RgC.neg h1.1 h1.2 h2.1 h2.2, k _ _ _ _ _ q tx m1 ok_Itc⟩
  · exact q.elim)
def enumOf (d : D) (M : Mp) (Q : List D → Stay → Mp → Prop) : Prop := match d with
  | .tup xs => Q (enumD xs) [] M
  | .ref a => ∃ xs, M a = some (.lst xs) ∧ Q (enumD xs) [(a, xs)] M
  | _ => False
def iEnum' (ta : E') : I' := fun ρ M Q => ta ρ M fun d M1 => enumOf d M1 Q
theorem pi_enum' {elts : List Expr} {kk : Nat} {tpos : Pos} (hg : Gl X "enumerate") (hm : X.mg "enumerate" = none) (ha : PE' X a ta) (hs : starEach [a] X.env = [(false, eval a X.env)]) :
    PI' X (.Tuple elts kk tpos) (.Call (.Name "enumerate" p) [a] [] pos) (iEnum' ta) := by
  refine ⟨fun pins s σ H R I h => ?_⟩
  obtain ⟨ρ, M, Q', hs', hm', h, k⟩ := h
  have hA : wpAny (model X.prog X.w) X.A (spliced (backTo pos (starEach [a] X.env))) (AP X pins σ fun vs H1 => ∃ v, vs = [v] ∧ ∃ d M1, enumOf d M1 Q' ∧ TX H H1 ∧ Sim X.K H1 M1 ∧ Rep X.K H1 d v) X.xe s :=
    (pa_cons' ha pa_nil' (by rw [hs]; rfl)).run pos pins s σ H _ I ⟨ρ, M, fun ds M1 => ∃ d, ds = [d] ∧ enumOf d M1 Q', hs', hm', by
      show ta ρ M fun x M1 => ∃ d, [x] = [d] ∧ enumOf d M1 Q'
      exact (show (ta ρ M fun d M1 => enumOf d M1 Q') = (ta ρ M fun x M1 => ∃ d, [x] = [d] ∧ enumOf d M1 Q') by congr 1; funext x M1; simp) ▸ h, fun ds M1 vs H1 q tx m1 r => by
      obtain ⟨d, rfl, q⟩ := q
      obtain ⟨v, rfl, r'⟩ := repL1 r
      exact ⟨v, rfl, d, M1, q, tx, m1, r'⟩⟩
  refine Call_ (ld_blt I hg hm PyProof.Rows.boot_enumerate (PyProof.Rows.callWith_type1 (thn hA fun us s1 hh => ?_) hs rfl))
  obtain ⟨vs, H1, I1, rvs, v, rfl, d, M1, q, tx, m1, r⟩ := hh
  obtain ⟨u, rfl, rv⟩ := vals1 rvs
  unfold enumOf at q
  split at q
  · rename_i xs
    obtain ⟨a', vs, rfl, hq, rr⟩ := rep_tup r
    cases rv
    obtain ⟨its, rv, pl, hz⟩ := I1.tuple hq
    have halt : a' < s1.heap.objs.size := by obtain ⟨o, e, _⟩ := pl; exact Heap.lt_size e
    refine pw_enum_begins (begins_tuple a' its.toArray) (show s1.heap.IsTuple a' its.toArray from pl) fun h' he hit hk => wpAny_pyIter_enum he ?_
    have I2 : Inv X pins σ H1 { s1 with heap := h' } := I1.kept (t' := s1.toks) hk
    refine ⟨s1.heap.objs.size + 1, [s1.heap.objs.size + 1, s1.heap.objs.size], _, _, H1, rfl, I2, turn_enumT a' (s1.heap.objs.size + 1) s1.heap.objs.size, ⟨⟨.none, he⟩, ⟨_, hit, rfl, rfl⟩, Nat.succ_ne_self _, Nat.ne_of_lt halt, Nat.ne_of_lt (Nat.lt_succ_of_lt halt)⟩, fun b hb => ?_, k _ _ _ _ _ q tx m1 (ok_IteT hq rr)⟩
    have hle : s1.heap.objs.size ≤ b := by
      have e' : b = s1.heap.objs.size + 1 ∨ b = s1.heap.objs.size := by simpa using hb
      rcases e' with z | z <;> rw [z] <;> first | exact Nat.le_refl _ | exact Nat.le_succ _
    exact I1.fpOk hle (I1.hok.fresh hle)
  · rename_i a'
    obtain ⟨xs, ma, q⟩ := q
    rw [rep_ref r] at rv
    cases rv
    obtain ⟨vs, z, rr⟩ := m1 a' _ ma
    obtain ⟨its, rv, pl, hz⟩ := I1.list (SqL.of z)
    refine pw_enum_begins (begins_list a' its.toArray) pl.isList fun h' he hit hk => wpAny_pyIter_enum he ?_
    have I2 : Inv X pins σ H1 { s1 with heap := h' } := I1.kept (t' := s1.toks) hk
    refine ⟨s1.heap.objs.size + 1, [s1.heap.objs.size + 1, s1.heap.objs.size], _, _, H1, rfl, I2, turn_enum a' (s1.heap.objs.size + 1) s1.heap.objs.size, ⟨⟨.none, he⟩, ⟨_, hit, rfl, rfl⟩, Nat.succ_ne_self _⟩, fun b hb => ?_, k _ _ _ _ _ q tx m1 ok_Ite⟩
    have hle : s1.heap.objs.size ≤ b := by
      have e' : b = s1.heap.objs.size + 1 ∨ b = s1.heap.objs.size := by simpa using hb
      rcases e' with z | z <;> rw [z] <;> first | exact Nat.le_refl _ | exact Nat.le_succ _
    exact I1.fpOk hle (I1.hok.fresh hle)
  · exact q.elim
def zipOf (ds : List D) (M : Mp) (Q : List D → Stay → Mp → Prop) : Prop := match ds with
  | [.tup xs, .tup ys] => Q (zipD xs ys) [] M
  | [.ref a, .ref b] => ∃ xs ys, M a = some (.lst xs) ∧ M b = some (.lst ys) ∧ Q (zipD xs ys) [(a, xs), (b, ys)] M
  | _ => False
def iZip' (t : A') : I' := fun ρ M Q => t ρ M fun ds M1 => zipOf ds M1 Q
theorem pi_zip' {elts : List Expr} {kk : Nat} {tpos : Pos} (hg : Gl X "zip") (hm : X.mg "zip" = none) (ha : PA' X [a, b] t) (hs : starEach [a, b] X.env = (false, eval a X.env) :: starEach [b] X.env) (hpl : (backTo pos (starEach [b] X.env)).any (·.1) = false) :
    PI' X (.Tuple elts kk tpos) (.Call (.Name "zip" p) [a, b] [] pos) (iZip' t) := (RZ.pi_zipA hg hm ha hs hpl).weak (by
  rintro σ H R ⟨ρ, M, Q', hs, hm, h, k⟩
  refine ⟨ρ, M, _, hs, hm, h, fun ds M1 vs H1 q tx m1 r => ?_⟩
  unfold zipOf at q
  split at q
  · rename_i xs ys
    obtain ⟨v, u, rfl, r1, r2⟩ := repL2 r
    obtain ⟨a, vs, rfl, h1, rr1⟩ := rep_tup r1
    obtain ⟨b, us, rfl, h2, rr2⟩ := rep_tup r2
    exact ⟨a, b, vs, us, rfl, .inr ⟨h1, h2, k _ _ _ _ _ q tx m1 (ok_ItzT h1 rr1 h2 rr2)⟩⟩
  · rename_i a b
    obtain ⟨v, u, rfl, r1, r2⟩ := repL2 r
    obtain ⟨xs, ys, ma, mb, q⟩ := q
    obtain ⟨vs, z, rr⟩ := m1 a _ ma
    obtain ⟨us, z2, rr2⟩ := m1 b _ mb
    rw [rep_ref r1, rep_ref r2]
    exact ⟨a, b, vs, us, rfl, .inl ⟨SqL.of z, SqL.of z2, k _ _ _ _ _ q tx m1 ok_Itz⟩⟩
  · exact q.elim)
def revOf (d : D) (M : Mp) (Q : List D → Stay → Mp → Prop) : Prop := match d with
  | .tup xs => Q xs.reverse [] M
  | .ref a => ∃ xs, M a = some (.lst xs) ∧ Q xs.reverse [(a, xs)] M
  | _ => False
def iRev' (ta : E') : I' := fun ρ M Q => ta ρ M fun d M1 => revOf d M1 Q
theorem pi_rev' (hg : Gl X "reversed") (hm : X.mg "reversed" = none) (ha : PE' X a ta) (hs : starEach [a] X.env = (false, eval a X.env) :: starEach [] X.env) : PI' X tg (.Call (.Name "reversed" p) [a] [] pos) (iRev' ta) := (RT.pi_revA hg hm ha hs).weak (by
  rintro σ H R ⟨ρ, M, Q', hs, hm, h, k⟩
  refine ⟨ρ, M, _, hs, hm, h, fun d M1 v H1 q tx m1 r => ?_⟩
  unfold revOf at q
  split at q
  · rename_i xs
    obtain ⟨a, vs, rfl, hq, rr⟩ := rep_tup r
    refine ⟨a, vs, rfl, .inr ⟨hq, ?_⟩⟩
    rw [rr.len]
    exact k _ _ _ _ _ q tx m1 (ok_ItvT hq rr)
  · rename_i a
    obtain ⟨xs, ma, q⟩ := q
    obtain ⟨vs, z, rr⟩ := m1 a _ ma
    rw [rep_ref r]
    refine ⟨a, vs, rfl, .inl ⟨SqL.of z, ?_⟩⟩
    rw [rr.len]
    exact k _ _ _ _ _ q tx m1 ok_Itv
  · exact q.elim)
end
end Pw
set_option Elab.async false
set_option linter.all false
set_option maxRecDepth 100000
set_option maxHeartbeats 4000000
namespace Pw
open PySem PySem.Spec PyProof.Rows L2

/-! ### comprehensions -/
def wipeD (ρ : Rho) : List Nat → Rho
  | [] => ρ
  | v :: vs => (wipeD ρ vs).set v none
theorem wipe_get (σ : L2.St) (j : Nat) : ∀ vs : List Nat, (wipe σ vs)[j]? = if j ∈ vs then (if j < σ.length then some none else none) else σ[j]?
  | [] => by simp [wipe]
  | v :: vs => by
    unfold wipe
    rw [List.getElem?_set, wipe_get σ j vs, wipe_length]
    by_cases h : v = j
    · subst h; simp
    · have : ¬ j = v := fun e => h e.symm
      simp [h, this]
theorem wipeD_get (σ : Rho) (j : Nat) : ∀ vs : List Nat, (wipeD σ vs)[j]? = if j ∈ vs then (if j < σ.length then some none else none) else σ[j]?
  | [] => by simp [wipeD]
  | v :: vs => by
    have hl : ∀ ws, (wipeD σ ws).length = σ.length := by
      intro ws; induction ws with
      | nil => rfl
      | cons w ws ih => simp [wipeD, ih]
    unfold wipeD
    rw [List.getElem?_set, wipeD_get σ j vs, hl]
    by_cases h : v = j
    · subst h; simp
    · have : ¬ j = v := fun e => h e.symm
      simp [h, this]
theorem wipeD_length (σ : Rho) : ∀ ws : List Nat, (wipeD σ ws).length = σ.length
  | [] => rfl
  | w :: ws => by simp [wipeD, wipeD_length σ ws]
theorem wipe_set {σ : L2.St} {i : Nat} {v : Option V} {vs : List Nat} (h : i ∈ vs) : wipe (σ.set i v) vs = wipe σ vs := by
  apply List.ext_getElem?
  intro j
  rw [wipe_get, wipe_get, List.length_set, List.getElem?_set]
  by_cases hj : j ∈ vs
  · simp [hj]
  · have : ¬ i = j := fun e => hj (e ▸ h)
    simp [hj, this]
theorem wipe_wipe {σ : L2.St} {vs : List Nat} : wipe (wipe σ vs) vs = wipe σ vs := by
  apply List.ext_getElem?
  intro j
  rw [wipe_get, wipe_get, wipe_length]
  by_cases hj : j ∈ vs <;> simp [hj]
theorem SimS.wipe {K : PySem.W.Frag} {H : Hp} {σ : L2.St} {ρ : Rho} (h : SimS K H σ ρ) (vs : List Nat) : SimS K H (wipe σ vs) (wipeD ρ vs) := by
  refine ⟨by rw [wipe_length, wipeD_length]; exact h.1, fun j d e => ?_⟩
  rw [wipeD_get] at e
  rw [wipe_get]
  by_cases hj : j ∈ vs
  · simp only [hj, if_true] at e
    split at e <;> cases e
  · simp only [hj, if_false] at e ⊢
    exact h.2 j d e
/-- a comprehension's target: a name, or a row of names -/
inductive CT where
  | one (i : Nat)
  | many (is : List Nat)
def setLD (ρ : Rho) : List Nat → List D → Option Rho
  | [], [] => some ρ
  | i :: is, d :: ds => setLD (ρ.set i (some d)) is ds
  | _, _ => none
def setLV (σ : L2.St) : List Nat → List V → L2.St
  | i :: is, d :: ds => setLV (σ.set i (some d)) is ds
  | _, _ => σ
def CT.set (t : CT) (d : D) (ρ : Rho) : Option Rho := match t with
  | .one i => some (ρ.set i (some d))
  | .many is => match d with
    | .tup xs => setLD ρ is xs
    | _ => none
def gsOf : List Nat → TGs
  | [] => gNil
  | i :: is => gCons (gName i) (gsOf is)
def CT.g (K : PySem.W.Frag) : CT → TG
  | .one i => gName i
  | .many is => gTup K is.length (gsOf is)
def CT.slots : CT → List Nat
  | .one i => [i]
  | .many is => is
theorem gsOf_ok : ∀ (is : List Nat) (vs : List V) (σ : L2.St) (H : Hp) (Q : L2.St → Hp → Prop), vs.length = is.length → Q (setLV σ is vs) H → gsOf is vs σ H Q
  | [], [], σ, H, Q, _, q => ⟨rfl, q⟩
  | i :: is, v :: vs, σ, H, Q, hl, q => ⟨v, vs, rfl, gsOf_ok is vs _ H Q (by simpa using hl) q⟩
  | [], _ :: _, _, _, _, hl, _ => by simp at hl
  | _ :: _, [], _, _, _, hl, _ => by simp at hl
theorem setLV_wipe {own : List Nat} : ∀ (is : List Nat) (vs : List V) (σ : L2.St), (∀ i ∈ is, i ∈ own) → wipe (setLV σ is vs) own = wipe σ own
  | [], _, σ, _ => by unfold setLV; rfl
  | i :: is, [], σ, _ => by unfold setLV; rfl
  | i :: is, v :: vs, σ, h => by
    unfold setLV
    rw [setLV_wipe is vs _ (fun j hj => h j (by simp [hj])), wipe_set (h i (by simp))]
theorem setLD_sim {K : PySem.W.Frag} {H : Hp} : ∀ (is : List Nat) {ds : List D} {vs : List V} {σ : L2.St} {ρ ρ1 : Rho}, SimS K H σ ρ → RepL K H ds vs → setLD ρ is ds = some ρ1 → SimS K H (setLV σ is vs) ρ1 ∧ vs.length = is.length
  | [], [], vs, σ, ρ, ρ1, s, r, e => by
    unfold RepL at r; subst r
    unfold setLD at e; cases e
    exact ⟨by unfold setLV; exact s, rfl⟩
  | i :: is, d :: ds, vs, σ, ρ, ρ1, s, r, e => by
    unfold RepL at r
    obtain ⟨v, rs, rfl, r1, r2⟩ := r
    unfold setLD at e
    obtain ⟨a, b⟩ := setLD_sim is (s.set r1) r2 e
    exact ⟨by unfold setLV; exact a, by simp [b]⟩
  | [], _ :: _, _, _, _, _, _, _, e => by simp [setLD] at e
  | _ :: _, [], _, _, _, _, _, _, e => by simp [setLD] at e
/-- the target is set: what HandS asks -/
theorem ct_go {K : PySem.W.Frag} {H : Hp} {t : CT} {d : D} {x : V} {σ : L2.St} {ρ ρ1 : Rho} {own : List Nat} {Q : L2.St → Hp → Prop} (s : SimS K H σ ρ) (r : Rep K H d x) (e : t.set d ρ = some ρ1) (ho : ∀ i ∈ t.slots, i ∈ own)
    (q : ∀ σ2, SimS K H σ2 ρ1 → wipe σ2 own = wipe σ own → Q σ2 H) : t.g K x σ H Q := by
  cases t with
  | one i =>
    cases e
    exact q _ (s.set r) (wipe_set (ho i (by simp [CT.slots])))
  | many is =>
    cases d with
    | tup xs =>
      have e' : setLD ρ is xs = some ρ1 := e
      obtain ⟨a, vs, rfl, hq, rr⟩ := rep_tup r
      obtain ⟨s2, hl⟩ := setLD_sim _ s rr e'
      exact ⟨a, vs, rfl, hq, hl, gsOf_ok _ _ _ _ _ hl (q _ s2 (setLV_wipe _ _ _ ho))⟩
    | _ => cases e
def wComp (y : Stay) (ct : CT) (own : List Nat) (c : T') (te : E') (p : Addr) (ρ : Rho) (Q : Q1) : List D → List D → Mp → Prop
  | [], _, M => StayM M y ∧ Q (.ref p) M
  | x :: xs, acc, M => StayM M y ∧ match ct.set x (wipeD ρ own) with
    | some ρ1 => c ρ1 M fun b M3 => if b = true then te ρ1 M3 fun z M4 => ∃ M0, Mp.le M0 M4 ∧ M0 p = some (.lst acc) ∧ acc.length < sizeLine ∧ wComp y ct own c te p ρ Q xs (acc ++ [z]) (put M0 p (.lst (acc ++ [z]))) else ∃ M0, Mp.le M0 M3 ∧ wComp y ct own c te p ρ Q xs acc M0
    | none => False
def comp' (wi : I') (ct : CT) (own : List Nat) (c : T') (te : E') : E' := fun ρ M Q => wi ρ M fun ds y M1 => ∀ p, M1 p = none → wComp y ct own c te p ρ Q ds [] (put M1 p (.lst []))
def yes' : T' := fun _ M Q => Q true M
abbrev PTs' (X : Cx) (ifs : List Expr) (t : T') : Prop := PTs X ifs (liftT X.K t)
theorem _root_.L2.PTs.weak {X : Cx} {e : List Expr} {t u : TT} (h : PTs X e t) (w : ∀ σ H Q, u σ H Q → t σ H Q) : PTs X e u := ⟨fun pins s σ H Q I q => h.run pins s σ H Q I (w σ H Q q)⟩
theorem pts_nil' {X : Cx} : PTs' X [] yes' := pts_nil.weak (by
  rintro σ H Q ⟨ρ, M, Q', hs, hm, h, k⟩
  exact k _ _ _ h TX.refl hm)
theorem pts_one' {X : Cx} {c : Expr} {t : T'} (h : PT' X c t) : PTs' X [c] t := pts_one h
section
variable {X : Cx} {pos : Pos}
theorem compW {wi : I'} {ct : CT} {own : List Nat} {c : T'} {te : E'} (ho : ∀ i ∈ ct.slots, i ∈ own) : ∀ σ H Q, liftE X.K (comp' wi ct own c te) σ H Q → tLc (liftI X.K wi) (ct.g X.K) (liftT X.K c) (liftE X.K te) own σ H Q := by
  rintro σ H Q ⟨ρ, M, Q', hs, hm, h, k⟩
  refine ⟨ρ, M, _, hs, hm, h, fun ds y M1 J H1 q tx1 m1 ok => fun p n => ?_⟩
  have w0 := q p (m1.free n)
  refine ⟨fun i m H2 => m = ds.length - i ∧ i ≤ ds.length ∧ ∃ acc M, Sim X.K H2 M ∧ TX H1 H2 ∧ wComp y ct own c te p ρ Q' (ds.drop i) acc M, ⟨_, rfl, Nat.zero_le _, [], _, new_lst m1 n repL_nil, TX.new n, by simpa using w0⟩, ?_⟩
  rintro i m H2 ⟨rfl, hi, acc, M2, m2, tx2, w2⟩
  by_cases hl : i < ds.length
  · rw [List.drop_eq_getElem_cons hl] at w2
    obtain ⟨sy, w2⟩ := w2
    have sh := sy.h m2
    refine .inr ⟨ok.go i H2 tx2 sh hl, fun H' => ∃ acc M, Sim X.K H' M ∧ TX H1 H' ∧ wComp y ct own c te p ρ Q' (ds.drop (i + 1)) acc M, ?_, ?_⟩
    · rintro H' ⟨acc', M', m', tx', w'⟩
      exact ⟨ds.length - (i + 1), by omega, rfl, hl, acc', M', m', tx', w'⟩
    · intro x H3 hy
      obtain ⟨d, ed, rd, tx3, mm⟩ := ok.yld i H2 x H3 tx2 sh hl hy
      rw [List.getElem?_eq_getElem hl] at ed
      cases ed
      have m3 := mm M2 m2
      have txa := tx2.trans tx3
      split at w2
      · rename_i ρ1 e1
        refine ct_go ((hs.mono (tx1.trans txa)).wipe own) rd e1 ho fun σ2 s2 hw => ⟨hw.trans wipe_wipe, ρ1, M2, _, s2, m3, w2, fun b M4 H4 q4 tx4 m4 => ?_⟩
        cases b with
        | true =>
          rw [if_pos rfl] at q4 ⊢
          refine ⟨ρ1, M4, _, s2.mono tx4, m4, q4, fun z M5 v H5 q5 tx5 m5 r5 => ?_⟩
          obtain ⟨M0, hle, mp, hz, w5⟩ := q5
          replace m5 := m5.le hle
          obtain ⟨vs, hp, rr⟩ := m5 p _ mp
          obtain ⟨tx6, m6⟩ := put_lst m5 hp (rr.append (repL_cons r5 repL_nil))
          exact ⟨vs, hp, by rw [rr.len]; exact hz, _, _, m6, ((txa.trans tx4).trans tx5).trans tx6, w5⟩
        | false =>
          rw [if_neg Bool.false_ne_true] at q4 ⊢
          obtain ⟨M0, hle, q4⟩ := q4
          exact ⟨_, _, m4.le hle, txa.trans tx4, q4⟩
      · exact w2.elim
  · have e : i = ds.length := by omega
    subst e
    rw [List.drop_length] at w2
    obtain ⟨sy, w2⟩ := w2
    exact .inl ⟨ok.stop H2 tx2 (sy.h m2), k _ _ _ _ w2 (tx1.trans tx2) m2 mk_ref⟩
theorem pe_comp' {elt tg iter : Expr} {ifs : List Expr} {scope : Scope} {own : List (Str × Nat)} {wi : I'} {ct : CT} {c : T'} {te : E'} (hc : X.calm = true) (hN : X.N.Nodup) (hi : PI' X tg iter wi) (ok : BlkOk X.N X.env.scope scope own)
    (hg : ∀ (s : Shared) (H : Hp) (C : Addr) (cl : List (Str × Addr)) (fp : List Addr), PG (X.blk s H scope (compEnvC scope cl C X.env) fp) tg (ct.g X.K)) (ht : ∀ (s : Shared) (H : Hp) (C : Addr) (cl : List (Str × Addr)) (fp : List Addr), PTs' (X.blk s H scope (compEnvC scope cl C X.env) fp) ifs c)
    (he : ∀ (s : Shared) (H : Hp) (C : Addr) (cl : List (Str × Addr)) (fp : List Addr), PE' (X.blk s H scope (compEnvC scope cl C X.env) fp) elt te) (hs : ∀ x, foldedSetIterable iter X.env x = pure x) (ho : ∀ i ∈ ct.slots, i ∈ own.map (·.2)) :
    PE' X (.ListComp elt [⟨tg, iter, ifs, 0⟩] scope pos) (comp' wi ct (own.map (·.2)) c te) := (pe_lc hc hN hi ok hg ht he hs).weak (compW ho)
theorem ps_setComp' {i : Nat} {y : Str} {py spos : Pos} {elt tg iter : Expr} {ifs : List Expr} {scope : Scope} {own : List (Str × Nat)} {wi : I'} {ct : CT} {c : T'} {te : E'} (hc : X.calm = true) (hN : X.N.Nodup) (hy : X.N[i]? = some y) (hyl : X.env.scope.names.lookup y = some .local)
    (hsw : swapsWith (.ListComp elt [⟨tg, iter, ifs, 0⟩] scope pos) (some (.Name y py)) spos.line X.env = pure true) (hi : PI' X tg iter wi) (ok : BlkOk X.N X.env.scope scope own)
    (hg : ∀ (s : Shared) (H : Hp) (C : Addr) (cl : List (Str × Addr)) (fp : List Addr), PG (X.blk s H scope (compEnvC scope cl C X.env) fp) tg (ct.g X.K)) (ht : ∀ (s : Shared) (H : Hp) (C : Addr) (cl : List (Str × Addr)) (fp : List Addr), PTs' (X.blk s H scope (compEnvC scope cl C X.env) fp) ifs c)
    (he : ∀ (s : Shared) (H : Hp) (C : Addr) (cl : List (Str × Addr)) (fp : List Addr), PE' (X.blk s H scope (compEnvC scope cl C X.env) fp) elt te) (hs : ∀ x, foldedSetIterable iter X.env x = pure x) (ho : ∀ i ∈ ct.slots, i ∈ own.map (·.2)) :
    PS' X (.Assign [.Name y py] (.ListComp elt [⟨tg, iter, ifs, 0⟩] scope pos) spos) (asg' (comp' wi ct (own.map (·.2)) c te) (gName' i)) := (ps_setLc hc hN hy hyl hsw hi ok hg ht he hs).weak (by
  rintro Z σ H ⟨ρ, M, D', hs, hm, h, k⟩
  have q : liftE X.K (comp' wi ct (own.map (·.2)) c te) σ H (fun x H1 => gName i x σ H1 Z.nx) := ⟨ρ, M, _, hs, hm, h, fun d M1 v H1 q tx m1 r => k.nx _ _ _ _ q tx ((hs.mono tx).set r) m1⟩
  exact compW ho σ H _ q)
end

/-! ### methods of built-in types -/
abbrev MtR' (X : Cx) (id : String) (r : RM') : Prop := MtR X id (liftM X.K r)
/-- an expression that is no call of a name without arguments -/
def noSup : Expr → Bool
  | .Call _ _ _ _ => false
  | _ => true
theorem base_of {o : Expr} {f : Str} {env : Env} (h : noSup o = true) : attributeBase o f env (eval o env) = eval o env := by
  cases o <;> first | rfl | cases h
def tyD (T : String) (M : Mp) (d : D) : Prop := match d with
  | .str _ => T = "str"
  | .ref a => (T = "list" ∧ ∃ xs, M a = some (.lst xs)) ∨ (T = "dict" ∧ ∃ xs, M a = some (.dic xs))
  | _ => False
theorem tyD_ok {K : PySem.W.Frag} {H : Hp} {T : String} {M : Mp} {d : D} {v : V} (h : tyD T M d) (m : Sim K H M) (r : Rep K H d v) : tyV K T v H := by
  unfold tyD at h
  split at h
  · rw [rep_str r]; exact h
  · rename_i a
    rw [rep_ref r]
    rcases h with ⟨e, xs, ma⟩ | ⟨e, xs, ma⟩
    · obtain ⟨vs, z, _⟩ := m a _ ma
      exact .inl ⟨e, vs, SqL.of z⟩
    · obtain ⟨vs, z, _⟩ := m a _ ma
      exact .inr (.inr (.inl ⟨e, .inl ⟨vs, z⟩⟩))
  · exact h.elim
section
variable {X : Cx} {o e : Expr} {es : List Expr} {to : E'} {t : A'} {name : Str} {apos cpos : Pos} {T id : String} {r : RM'}
def meth' (T : String) (r : RM') (to : E') (t : A') : E' := fun ρ M Q => to ρ M fun d M1 => tyD T M1 d ∧ t ρ M1 fun ds M2 => r d ds M2 Q
theorem few_of {env : Env} (h : (e :: es).all plainE = true) (hl : (e :: es).length < 29) : ((backTo cpos (starEach (e :: es) env)).all (fun x => !x.1) && (backToKw cpos (keywordEach [] env)).all (fun x => x.1.isSome)
      && decide ((e :: es).length + ([] : List Keyword).length + (if ([] : List Keyword).isEmpty then 0 else 1) < 30)) = true := by
  have h1 : (backTo cpos (starEach (e :: es) env)).all (fun x => !x.1) = true := by
    have q := star_all (env := env) (pos := cpos) h
    rw [List.all_eq_true]
    intro x hx
    rw [List.any_eq_false] at q
    have := q x hx
    simpa using this
  rw [h1, Bool.true_and]
  have h2 : (backToKw cpos (keywordEach [] env)).all (fun x => x.1.isSome) = true := rfl
  rw [h2, Bool.true_and]
  exact decide_eq_true (by simp at hl ⊢; omega)
theorem pe_meth' (pa : PlainAttrs T) (slot : Slot T name id) (hty : typeOf (.builtin id) = pure (.type "method_descriptor")) (hm : MtR' X id r) (ho : PE' X o to) (ha : PA' X (e :: es) t) (hn : noSup o = true)
    (hst : (e :: es).all plainE = true) (hl : (e :: es).length < 29) (hline : (apos.endLine == cpos.line) = true) : PE' X (.Call (.Attribute o name apos) (e :: es) [] cpos) (meth' T r to t) := by
  have h2 := hst
  rw [List.all_cons, Bool.and_eq_true] at h2
  refine (pe_bm pa slot hty hm ho ha (base_of hn) (few_of hst hl) hline (star1 h2.1) (star_all h2.2)).weak ?_
  rintro σ H Q ⟨ρ, M, Q', hs, hm, h, k⟩
  exact ⟨ρ, M, _, hs, hm, h, fun d M1 v H1 ⟨ty, q1⟩ tx1 m1 r1 => ⟨tyD_ok ty m1 r1, ρ, M1, _, hs.mono tx1, m1, q1, fun ds M2 vs H2 q2 tx2 m2 r2 => ⟨d, ds, M2, Q', r1.mono tx2, r2, m2, q2, fun z M' w H' q' tx' m' r' => k _ _ _ _ q' ((tx1.trans tx2).trans tx') m' r'⟩⟩⟩
theorem pe_meth0' (pa : PlainAttrs T) (slot : Slot T name id) (hty : typeOf (.builtin id) = pure (.type "method_descriptor")) (hm : MtR' X id r) (ho : PE' X o to) (hn : noSup o = true)
    (hline : (apos.endLine == cpos.line) = true) : PE' X (.Call (.Attribute o name apos) [] [] cpos) (meth' T r to nil') := by
  refine (pe_bm0 pa slot hty hm ho (base_of hn) hline).weak ?_
  rintro σ H Q ⟨ρ, M, Q', hs, hm, h, k⟩
  exact ⟨ρ, M, _, hs, hm, h, fun d M1 v H1 ⟨ty, q1⟩ tx1 m1 r1 => ⟨tyD_ok ty m1 r1, d, [], M1, Q', r1, repL_nil, m1, q1, fun z M' w H' q' tx' m' r' => k _ _ _ _ q' (tx1.trans tx') m' r'⟩⟩
def mAppend : RM' := fun d ds M Q => match d, ds with
  | .ref a, [y] => ∃ xs, M a = some (.lst xs) ∧ xs.length < sizeLine ∧ Q .non (put M a (.lst (xs ++ [y])))
  | _, _ => False
theorem mt_append' : MtR' X "list.append" mAppend := MtR.weak mt_append (by
  rintro x xs H Q ⟨d, ds, M, Q', r, rd, m, h, k⟩
  unfold mAppend at h
  split at h
  · rename_i a y
    obtain ⟨ys, ma, hz, q⟩ := h
    obtain ⟨vs, z, rr⟩ := m a _ ma
    obtain ⟨w, rfl, rw'⟩ := repL1 rd
    obtain ⟨tx, m'⟩ := put_lst m z (rr.append (repL_cons rw' repL_nil))
    exact ⟨a, vs, w, rep_ref r, rfl, z, by rw [rr.len]; exact hz, k _ _ _ _ q tx m' mk_non⟩
  · exact h.elim)
/-- pop(), pop(i) -/
def mPop : RM' := fun d ds M Q => match d, ds with
  | .ref a, [] => ∃ xs y, M a = some (.lst xs) ∧ xs[xs.length - 1]? = some y ∧ Q y (put M a (.lst xs.dropLast))
  | .ref a, [.int i] => ∃ xs k y, M a = some (.lst xs) ∧ small62 i ∧ seqIndex? i xs.length = some k ∧ xs[k]? = some y ∧ Q y (put M a (.lst (xs.eraseIdx k)))
  | _, _ => False
theorem RepL.dropLast {K : PySem.W.Frag} {H : Hp} {ds : List D} {vs : List V} (r : RepL K H ds vs) : RepL K H ds.dropLast vs.dropLast := by
  rw [List.dropLast_eq_take, List.dropLast_eq_take, r.len]; exact r.take _
theorem mt_pop' : MtR' X "list.pop" mPop := (MtR.or (id := "list.pop") mt_pop mt_popAt).weak (by
  rintro x xs H Q ⟨d, ds, M, Q', r, rd, m, h, k⟩
  unfold mPop at h
  split at h
  · rename_i a
    obtain ⟨ys, y, ma, ey, q⟩ := h
    obtain ⟨vs, z, rr⟩ := m a _ ma
    unfold RepL at rd
    subst rd
    obtain ⟨tx, m'⟩ := put_lst m z rr.dropLast
    obtain ⟨w, ew, rw'⟩ := rr.get ey
    exact .inl ⟨a, vs, w, rep_ref r, rfl, z, by rw [rr.len]; exact ew, k _ _ _ _ q tx m' (rw'.mono tx)⟩
  · rename_i a i
    obtain ⟨ys, j, y, ma, hsm, ej, ey, q⟩ := h
    obtain ⟨vs, z, rr⟩ := m a _ ma
    obtain ⟨w, rfl, rw1⟩ := repL1 rd
    rw [rep_int rw1]
    obtain ⟨tx, m'⟩ := put_lst m z (rr.erase j)
    obtain ⟨w, ew, rw'⟩ := rr.get ey
    exact .inr ⟨a, vs, i, j, w, rep_ref r, rfl, z, by have := hsm.1; omega, by have := hsm.2; omega, by rw [rr.len]; exact ej, ew, k _ _ _ _ q tx m' (rw'.mono tx)⟩
  · exact h.elim)
/-- index, of what is there -/
def mIndex : RM' := fun d ds M Q => match d, ds with
  | .ref a, [y] => ∃ (xs : List D) (j : Nat) (z : D), M a = some (.lst xs) ∧ flL xs dep = true ∧ fl y dep = true ∧ xs[j]? = some z ∧ eqD z y = true ∧ (∀ (m : Nat) (z' : D), m < j → xs[m]? = some z' → eqD z' y = false) ∧ Q (.int (j : Nat)) M
  | _, _ => False
theorem pyL_get : ∀ (ds : List D) (j : Nat), (pyL ds)[j]? = (ds[j]?).map py
  | [], _ => by simp [pyL]
  | d :: ds, 0 => by simp [pyL]
  | d :: ds, j + 1 => by simp only [pyL, List.getElem?_cons_succ]; exact pyL_get ds j
theorem mt_index' (hu : X.A.units + 65 < cLine) : MtR' X "list.index" mIndex := (mt_indexD hu).weak (by
  rintro x xs H Q ⟨d, ds, M, Q', r, rd, m, h, k⟩
  unfold mIndex at h
  split at h
  · rename_i a y
    obtain ⟨ys, j, z, ma, f1, f2, ej, ez, hno, q⟩ := h
    obtain ⟨vs, hz, rr⟩ := m a _ ma
    obtain ⟨w, rfl, rw1⟩ := repL1 rd
    refine ⟨a, w, py y, pyL ys, j, py z, rep_ref r, rfl, .lst (SqL.of hz) (repL_dp ys rr f1), rep_dp y rw1 f2, flL_shaped f1, fl_shaped f2, by rw [pyL_get, ej]; rfl, by rw [eqv_py]; exact ez, fun m z' hm hz' => ?_, k _ _ _ _ q TX.refl m mk_int⟩
    rw [pyL_get] at hz'
    cases e : ys[m]? with
    | none => rw [e] at hz'; cases hz'
    | some u =>
      rw [e] at hz'
      cases hz'
      rw [eqv_py]
      exact hno m u hm e
  · exact h.elim)
end
end Pw
set_option Elab.async false
set_option linter.all false
set_option maxRecDepth 100000
set_option maxHeartbeats 4000000
/-! the readings of a text, computed from its syntax -/
namespace Pw
open PySem PySem.Spec PyProof.Rows L2

def noE : E' := fun _ _ _ => False
def noA : A' := fun _ _ _ => False
def noT : T' := fun _ _ _ => False
def noO : O' := fun _ _ _ => False
def noI : I' := fun _ _ _ => False
def noS : S' := fun _ _ _ => False
section
variable {X : Cx}
theorem pe_no {e : Expr} : PE' X e noE := ⟨fun _ _ _ _ _ _ h => by obtain ⟨_, _, _, _, _, z, _⟩ := h; exact z.elim⟩
theorem pa_no {e : List Expr} : PA' X e noA := ⟨fun _ _ _ _ _ _ _ h => by obtain ⟨_, _, _, _, _, z, _⟩ := h; exact z.elim⟩
theorem pt_no {e : Expr} : PT' X e noT := ⟨fun _ _ _ _ _ _ h => by obtain ⟨_, _, _, _, _, z, _⟩ := h; exact z.elim⟩
theorem pw_no {e : Expr} : PW' X e noT := ⟨fun _ _ _ _ _ _ _ h => by obtain ⟨_, _, _, _, _, z, _⟩ := h; exact z.elim⟩
theorem po_no {e : Option Expr} : PO' X e noO := ⟨fun _ _ _ _ _ _ h => by obtain ⟨_, _, _, _, _, z, _⟩ := h; exact z.elim⟩
theorem pi_no {tg e : Expr} : PI' X tg e noI := ⟨fun _ _ _ _ _ _ h => by obtain ⟨_, _, _, _, _, z, _⟩ := h; exact z.elim⟩
theorem ps_no {st : Stmt} : PS' X st noS := ⟨fun _ _ _ _ _ _ h => by obtain ⟨_, _, _, _, _, z, _⟩ := h; exact z.elim⟩
theorem pss_no {st : List Stmt} : PSs' X st noS := ⟨fun _ _ _ _ _ _ h => by obtain ⟨_, _, _, _, _, z, _⟩ := h; exact z.elim⟩
end

/-- names, scope, which cells are one's own -/
structure Cn where
  N : List Str
  sc : Scope
  fb : Str → Bool
structure Rd where
  E : Cn → Expr → E'
  A : Cn → List Expr → A'
  O : Cn → Option Expr → O'
  T : Cn → Expr → T'
  W : Cn → Expr → T'
  I : Cn → Expr → Expr → I'
def Rd.bot : Rd := ⟨fun _ _ => noE, fun _ _ => noA, fun _ _ => noO, fun _ _ => noT, fun _ _ => noT, fun _ _ _ => noI⟩
/-- what names mean; more rules -/
structure Gm where
  fn : Str → Option RC'
  fn0 : Str → Option RC'
  gv : Str → Option D
  mt : Str → Option (String × String × RM')
  ext : Rd → Cn → Expr → E' := fun _ _ _ => noE
  pri : Str → List Expr → Bool := fun _ _ => false
  exi : Rd → Cn → Expr → Expr → I' := fun _ _ _ _ => noI
  exs : Rd → Cn → (List Stmt → S') → Stmt → S' := fun _ _ _ _ => noS
  exg : Rd → Cn → Expr → G' := fun _ _ _ _ _ _ _ => False

def visB (sc : Scope) (x : Str) : Bool := match sc.names.lookup x with
  | some .local => true | some .cell => true | some .free => true | _ => false
def locB (sc : Scope) (x : Str) : Bool := match sc.names.lookup x with
  | some .local => true | some .cell => true | _ => false
def glB (sc : Scope) (x : Str) : Bool := match sc.names.lookup x with
  | some .globalImplicit => true | _ => false
def lclB (sc : Scope) (x : Str) : Bool := match sc.names.lookup x with
  | some .local => true | _ => false
def ixOf : List Str → Str → Option Nat
  | [], _ => none
  | y :: ys, x => if y = x then some 0 else (ixOf ys x).map (· + 1)
theorem ixOf_ok : ∀ {N : List Str} {x : Str} {i : Nat}, ixOf N x = some i → N[i]? = some x
  | [], _, _, h => by simp [ixOf] at h
  | y :: ys, x, i, h => by
    unfold ixOf at h
    split at h
    · rename_i e; cases h; subst e; rfl
    · cases q : ixOf ys x with
      | none => rw [q] at h; cases h
      | some j => rw [q] at h; cases h; simpa using ixOf_ok q
theorem visB_ok {sc : Scope} {x : Str} (h : visB sc x = true) : Vis sc x := by
  unfold visB at h
  split at h
  · rename_i e; exact .inl e
  · rename_i e; exact .inr (.inl e)
  · rename_i e; exact .inr (.inr e)
  · cases h
theorem locB_ok {sc : Scope} {x : Str} (h : locB sc x = true) : Loc sc x := by
  unfold locB at h
  split at h
  · rename_i e; exact .inl e
  · rename_i e; exact .inr e
  · cases h
theorem glB_ok {sc : Scope} {x : Str} (h : glB sc x = true) : sc.names.lookup x = some .globalImplicit := by
  unfold glB at h
  split at h
  · assumption
  · cases h
theorem lclB_ok {sc : Scope} {x : Str} (h : lclB sc x = true) : sc.names.lookup x = some .local := by
  unfold lclB at h
  split at h
  · assumption
  · cases h

/-- where one stands, with the names told -/
structure Fit (P : Program) (w : World) (K : PySem.W.Frag) (mg : Str → Option Value) (base : Heap) (k : Nat) (c : Cn) (X : Cx) : Prop where
  at_ : At P w K mg base k X
  N : X.N = c.N
  nd : c.N.Nodup
  sc : X.env.scope = c.sc
  fb : ∀ x, c.fb x = true → X.fn x = true
section
variable {P : Program} {w : World} {K : PySem.W.Frag} {mg : Str → Option Value} {base : Heap} {k : Nat} {c : Cn} {X : Cx}
structure Rd.Ok (P : Program) (w : World) (K : PySem.W.Frag) (mg : Str → Option Value) (base : Heap) (k : Nat) (R : Rd) : Prop where
  E : ∀ c X e, Fit P w K mg base k c X → PE' X e (R.E c e)
  A : ∀ c X e, Fit P w K mg base k c X → PA' X e (R.A c e)
  O : ∀ c X e, Fit P w K mg base k c X → PO' X e (R.O c e)
  T : ∀ c X e, Fit P w K mg base k c X → PT' X e (R.T c e)
  W : ∀ c X e, Fit P w K mg base k c X → PW' X e (R.W c e)
  I : ∀ c X tg e, Fit P w K mg base k c X → PI' X tg e (R.I c tg e)
theorem bot_ok : Rd.bot.Ok P w K mg base k := ⟨fun _ _ _ _ => pe_no, fun _ _ _ _ => pa_no, fun _ _ _ _ => po_no, fun _ _ _ _ => pt_no, fun _ _ _ _ => pw_no, fun _ _ _ _ _ => pi_no⟩
structure Gm.Ok (P : Program) (w : World) (K : PySem.W.Frag) (mg : Str → Option Value) (base : Heap) (k : Nat) (Γ : Gm) : Prop where
  fn : ∀ x r, Γ.fn x = some r → CallOk P w K mg base k x r
  fn0 : ∀ x r, Γ.fn0 x = some r → CallOk0 P w K mg base k x r
  gv : ∀ x d, Γ.gv x = some d → ∀ X, At P w K mg base k X → Gl X x → ∀ pos, PE' X (.Name x pos) (con' d)
  mt : ∀ x T id r, Γ.mt x = some (T, id, r) → PlainAttrs T ∧ Slot T x id ∧ typeOf (.builtin id) = pure (.type "method_descriptor") ∧ ∀ X, At P w K mg base k X → MtR' X id r
  ext : ∀ R, Rd.Ok P w K mg base k R → ∀ c X e, Fit P w K mg base k c X → PE' X e (Γ.ext R c e)
  exi : ∀ R, Rd.Ok P w K mg base k R → ∀ c X tg e, Fit P w K mg base k c X → PI' X tg e (Γ.exi R c tg e)
  exs : ∀ R, Rd.Ok P w K mg base k R → ∀ c X B st, Fit P w K mg base k c X → PassesOwn (model X.prog X.w) X.A X.env X.xe → (∀ b, PSs' X b (B b)) → PS' X st (Γ.exs R c B st)
  exg : ∀ R, Rd.Ok P w K mg base k R → ∀ c X e, Fit P w K mg base k c X → PG' X e (Γ.exg R c e)
  rng : mg "range" = none
  enu : mg "enumerate" = none
  zip : mg "zip" = none
  rvd : mg "reversed" = none
end

/-! ### operators -/
def opR : Operator → Option R2'
  | .Add => some rAdd'
  | .Sub => some rSub'
  | .Mult => some rMul'
  | .FloorDiv => some rDiv'
  | .Mod => some rMod'
  | .Pow => some rPow'
  | _ => none
theorem opR_ok {X : Cx} {op : Operator} {r : R2'} (h : opR op = some r) : OpR' X (binaryOp op) r := by
  cases op <;> simp only [opR] at h <;> cases h
  · exact op_add'
  · exact op_sub'
  · exact op_mul'
  · exact op_mod'
  · exact op_pow'
  · exact op_div'
def cmR : CmpOp → R2'
  | .Eq => rEq' false
  | .NotEq => rEq' true
  | .Lt => rLt'
  | .LtE => rLe'
  | .Gt => rGt'
  | .GtE => rGe'
  | .Is => rIs' false
  | .IsNot => rIs' true
  | .In => rIn' false
  | .NotIn => rIn' true
theorem cmR_ok {X : Cx} {op : CmpOp} (hu : X.A.units + 65 < cLine) : OpR' X (compareOp op) (cmR op) := by
  cases op
  · exact op_eq' (by omega)
  · exact op_ne' (by omega)
  · exact op_lt'
  · exact op_le'
  · exact op_gt'
  · exact op_ge'
  · exact op_is'
  · exact op_isnot'
  · exact op_in' hu
  · exact op_notin' hu
/-- what a comparison gives is a bool -/
def Bl (r : R2') : Prop := ∀ x y M Q, r x y M Q → r x y M fun z M' => (∃ k, z = .bl k) ∧ Q z M'
theorem bl_int {C : Int → Int → Prop} {g : Int → Int → Bool} : Bl (rInt C fun i j => .bl (g i j)) := fun x y M Q h => by
  obtain ⟨i, j, rfl, rfl, hc, q⟩ := rint_of h
  exact ⟨hc, ⟨_, rfl⟩, q⟩
theorem cmR_bl (op : CmpOp) : Bl (cmR op) := by
  have e1 : ∀ neg, Bl (rEq' neg) := fun neg x y M Q h => by
    cases x <;> cases y <;> simp only [cmR, rEq'] at h ⊢ <;> first
      | (exact ⟨h.1, ⟨_, rfl⟩, h.2⟩)
      | (obtain ⟨xs, ys, a, b, c, d, q⟩ := h; exact ⟨xs, ys, a, b, c, d, ⟨_, rfl⟩, q⟩)
  have e2 : ∀ neg, Bl (rIs' neg) := fun neg x y M Q h => by
    cases x <;> cases y <;> simp only [cmR, rIs'] at h ⊢ <;> first
      | (exact ⟨⟨_, rfl⟩, h⟩)
      | (exact h.elim)
  have e3 : ∀ neg, Bl (rIn' neg) := fun neg x y M Q h => by
    cases y <;> simp only [cmR, rIn'] at h ⊢ <;> first
      | (exact ⟨h.1, h.2.1, ⟨_, rfl⟩, h.2.2⟩)
      | (obtain ⟨ys, a, b, c, q⟩ := h; exact ⟨ys, a, b, c, ⟨_, rfl⟩, q⟩)
      | (obtain ⟨c, e, q⟩ := h; exact ⟨c, e, ⟨_, rfl⟩, q⟩)
      | (exact h.elim)
  cases op
  · exact e1 _
  · exact e1 _
  · exact bl_int
  · exact bl_int
  · exact bl_int
  · exact bl_int
  · exact e2 _
  · exact e2 _
  · exact e3 _
  · exact e3 _
theorem pt_chain' {X : Cx} {a b c : Expr} {ta tb tc : E'} {pos : Pos} {op op' : CmpOp} {r r' : R2'} (ho : OpR' X (compareOp op) r) (ho' : OpR' X (compareOp op') r') (hbl : Bl r') (ha : PE' X a ta) (hb : PE' X b tb) (hc : PE' X c tc) (hm : lastMarks [op, op'] [b, c] = false) :
    PT' X (.Compare a [op, op'] [b, c] pos) (tt' (chain' r r' ta tb tc)) := by
  refine (pt_chain ho ho' ha hb hc hm).weak ?_
  rintro σ H Q ⟨ρ, M, Q', hs, hm, h, k⟩
  refine ⟨ρ, M, _, hs, hm, h, fun d M1 v H1 q1 e1 m1 r1 => ⟨ρ, M1, _, hs.mono e1, m1, q1, fun e M2 u H2 q2 e2 m2 r2 => ⟨d, e, M2, _, r1.mono e2, r2, m2, q2, fun z M3 w H3 q3 e3 m3 r3 => ?_⟩⟩⟩
  obtain ⟨b, rfl, q3⟩ := q3
  refine ⟨b, rep_bl r3, ?_⟩
  cases b with
  | false =>
    rw [if_neg Bool.false_ne_true] at q3 ⊢
    obtain ⟨k', ek, q3⟩ := q3
    cases ek
    exact ⟨false, rfl, k _ _ _ q3 ((e1.trans e2).trans e3) m3⟩
  | true =>
    rw [if_pos rfl] at q3 ⊢
    refine ⟨ρ, M3, _, hs.mono ((e1.trans e2).trans e3), m3, q3, fun f M4 u4 H4 q4 e4 m4 r4 => ⟨e, f, M4, _, r2.mono (e3.trans e4), r4, m4, hbl _ _ _ _ q4, fun z M' w H' q' e' m' r' => ?_⟩⟩
    obtain ⟨⟨c, rfl⟩, c', e5, q'⟩ := q'
    cases e5
    exact ⟨c, rep_bl r', k _ _ _ q' ((((e1.trans e2).trans e3).trans e4).trans e') m'⟩

/-! ### one step of the readings -/
def ownOf (N : List Str) (scope : Scope) : List (Str × Nat) := scope.names.filterMap fun y => match y.2 with
  | .local => (ixOf N y.1).map fun i => (y.1, i)
  | .cell => (ixOf N y.1).map fun i => (y.1, i)
  | _ => none
def tgIx (c : Cn) (x : Str) : Option Nat := if (locB c.sc x && (c.fb x || lclB c.sc x)) = true then ixOf c.N x else none
def nmIx (c : Cn) : Expr → Option Nat
  | .Name x _ => tgIx c x
  | _ => none
def nmsIx (c : Cn) : List Expr → Option (List Nat)
  | [] => some []
  | e :: es => match nmIx c e, nmsIx c es with
    | some i, some is => some (i :: is)
    | _, _ => none
def ctOf (c : Cn) : Expr → Option CT
  | .Name x _ => (tgIx c x).map .one
  | .Tuple es _ _ => (nmsIx c es).map .many
  | _ => none
def blkCn (c : Cn) (scope : Scope) : Cn := ⟨c.N, relS scope c.sc, fun x => scope.names.lookup x == some .cell⟩
def noSet : Expr → Bool
  | .Set _ _ _ => false
  | _ => true
/-- [elt for tg in iter if ..] -/
def stComp (R : Rd) (c : Cn) (elt tg iter : Expr) (ifs : List Expr) (scope : Scope) : E' :=
  if (blkC c.N c.sc scope (ownOf c.N scope) && noSet iter) = true then
    match ctOf (blkCn c scope) tg with
    | some ct => if ct.slots.all (fun i => ((ownOf c.N scope).map (·.2)).contains i) = true then
        match ifs with
        | [] => comp' (R.I c tg iter) ct ((ownOf c.N scope).map (·.2)) yes' (R.E (blkCn c scope) elt)
        | [t] => comp' (R.I c tg iter) ct ((ownOf c.N scope).map (·.2)) (R.T (blkCn c scope) t) (R.E (blkCn c scope) elt)
        | _ => noE
      else noE
    | none => noE
  else noE
def nt' (t : T') : T' := fun ρ M Q => t ρ M fun b M1 => Q (!b) M1
def an' (t u : T') : T' := fun ρ M Q => t ρ M fun b M1 => if b = true then u ρ M1 Q else Q false M1
def ro' (t u : T') : T' := fun ρ M Q => t ρ M fun b M1 => if b = true then Q true M1 else u ρ M1 Q
/-- a plain item, no slice -/
def ixB : Expr → Bool
  | .Slice _ _ _ _ => false
  | _ => true
theorem ixB_ok {b : Expr} (h : ixB b = true) : PlainIx b := by
  intro o i
  cases b <;> first | rfl | cases h
def stCall (Γ : Gm) (R : Rd) (c : Cn) (cpos : Pos) : Expr → List Expr → E'
  | .Name x p, es => if (glB c.sc x && !(x == ("__debug__" : Str))) = true then (match es with
      | [] => (match Γ.fn0 x with | some r => call' r nil' | none => noE)
      | e :: es => if (e :: es).all plainE = true then (match Γ.fn x with | some r => call' r (R.A c (e :: es)) | none => noE) else noE) else noE
  | .Attribute o name apos, es => if (noSup o && (apos.endLine == cpos.line)) = true then (match Γ.mt name with
      | some (T, _, r) => (match es with
        | [] => meth' T r (R.E c o) nil'
        | e :: es => if ((e :: es).all plainE && decide ((e :: es).length < 29)) = true then meth' T r (R.E c o) (R.A c (e :: es)) else noE)
      | none => noE) else noE
  | _, _ => noE
def stE (Γ : Gm) (R : Rd) (c : Cn) : Expr → E'
  | .Name x _ => if (!(x == ("__debug__" : Str)) && !(x == ("__classdict__" : Str))) = true then
      if visB c.sc x = true then (match ixOf c.N x with | some i => var' i | none => noE)
      else if glB c.sc x = true then (match Γ.gv x with | some d => con' d | none => noE) else noE
    else noE
  | .Constant (.int i) _ _ => con' (.int i)
  | .Constant (.str i) _ _ => con' (.str i)
  | .Constant (.bool i) _ _ => con' (.bl i)
  | .Constant .none _ _ => con' .non
  | .BinOp a op b _ => (match opR op with | some r => b2' r (R.E c a) (R.E c b) | none => noE)
  | .UnaryOp .USub a _ => neg' (R.E c a)
  | .UnaryOp .Not a _ => not' (R.E c a)
  | .IfExp t a b _ => ite' (R.T c t) (R.E c a) (R.E c b)
  | .BoolOp _ [a] _ => R.E c a
  | .BoolOp .And (a :: b :: r) pos => and' (R.E c a) (R.E c (.BoolOp .And (b :: r) pos))
  | .BoolOp .Or (a :: b :: r) pos => or' (R.E c a) (R.E c (.BoolOp .Or (b :: r) pos))
  | .Compare a [op] [b] _ => if behindInMarks op b = false then b2' (cmR op) (R.E c a) (R.E c b) else noE
  | .Compare a [op, op'] [b, d] _ => if lastMarks [op, op'] [b, d] = false then chain' (cmR op) (cmR op') (R.E c a) (R.E c b) (R.E c d) else noE
  | .Subscript a (.Slice lo hi .none _) _ => slc' (R.E c a) (R.O c lo) (R.O c hi)
  | .Subscript a b _ => if ixB b = true then b2' rIx' (R.E c a) (R.E c b) else noE
  | .Tuple es _ _ => tup' (R.A c es)
  | .List es _ => lst' (R.A c es)
  | .ListComp elt [⟨tg, iter, ifs, 0⟩] scope _ => stComp R c elt tg iter ifs scope
  | .Call (.Name x p) es [] cpos => if visB c.sc x = true then noE else if Γ.pri x es = true then Γ.ext R c (.Call (.Name x p) es [] cpos) else if (Γ.fn x).isSome || (Γ.fn0 x).isSome then stCall Γ R c cpos (.Name x p) es else Γ.ext R c (.Call (.Name x p) es [] cpos)
  | .Call (.Attribute o name apos) es [] cpos => if (Γ.mt name).isSome then stCall Γ R c cpos (.Attribute o name apos) es else Γ.ext R c (.Call (.Attribute o name apos) es [] cpos)
  | e => Γ.ext R c e
def stA (R : Rd) (c : Cn) : List Expr → A'
  | [] => nil'
  | e :: es => if plainE e = true then cons' (R.E c e) (R.A c es) else noA
def stO (R : Rd) (c : Cn) : Option Expr → O'
  | none => noPart'
  | some e => part' (R.E c e)
def stW (R : Rd) (c : Cn) : Expr → T'
  | .BoolOp .And [a] _ => R.T c a
  | .BoolOp .Or [a] _ => R.T c a
  | .BoolOp .And (a :: b :: r) pos => an' (R.T c a) (R.W c (.BoolOp .And (b :: r) pos))
  | .BoolOp .Or (a :: b :: r) pos => ro' (R.T c a) (R.W c (.BoolOp .Or (b :: r) pos))
  | _ => noT
def stT (R : Rd) (c : Cn) : Expr → T'
  | .UnaryOp .Not a _ => nt' (R.T c a)
  | .BoolOp op es pos => R.W c (.BoolOp op es pos)
  | .IfExp _ _ _ _ => noT
  | .Compare a [op] [b] _ => if behindInMarks op b = false then tt' (b2' (cmR op) (R.E c a) (R.E c b)) else noT
  | .Compare a [op, op'] [b, d] _ => if lastMarks [op, op'] [b, d] = false then tt' (chain' (cmR op) (cmR op') (R.E c a) (R.E c b) (R.E c d)) else noT
  | .Compare _ _ _ _ => noT
  | e => tt' (R.E c e)
/-- the iterables by name -/
def stIc (Γ : Gm) (R : Rd) (c : Cn) (x : Str) (es : List Expr) : I' :=
  if (glB c.sc x && es.all plainE) = true then
    if x = ("range" : Str) then (match es with
      | [a] => iRng1' (R.A c [a])
      | [a, b] => iRng2' (R.A c [a, b])
      | [a, b, d] => iRng3' (R.A c [a, b, d])
      | _ => noI)
    else if x = ("reversed" : Str) then (match es with
      | [a] => iRev' (R.E c a)
      | _ => noI)
    else noI
  else noI
def stIt (Γ : Gm) (R : Rd) (c : Cn) (x : Str) (es : List Expr) : I' :=
  if (glB c.sc x && es.all plainE) = true then
    if x = ("enumerate" : Str) then (match es with
      | [a] => iEnum' (R.E c a)
      | _ => noI)
    else if x = ("zip" : Str) then (match es with
      | [a, b] => iZip' (R.A c [a, b])
      | _ => noI)
    else noI
  else noI
def isSrc (x : Str) : Bool := decide (x = ("range" : Str)) || decide (x = ("reversed" : Str))
def isTSrc (x : Str) : Bool := decide (x = ("enumerate" : Str)) || decide (x = ("zip" : Str))
def isTup : Expr → Bool
  | .Tuple _ _ _ => true
  | _ => false
def stI (Γ : Gm) (R : Rd) (c : Cn) (tg : Expr) : Expr → I'
  | .Call (.Name x p) es [] pos => if isSrc x = true then stIc Γ R c x es else if isTSrc x = true then (if isTup tg = true then stIt Γ R c x es else noI) else
      if (Γ.fn x).isSome || (Γ.fn0 x).isSome then iVal' (R.E c (.Call (.Name x p) es [] pos)) else Γ.exi R c tg (.Call (.Name x p) es [] pos)
  | .Call f es ks pos => Γ.exi R c tg (.Call f es ks pos)
  | e => iVal' (R.E c e)
def stp (Γ : Gm) (R : Rd) : Rd := ⟨stE Γ R, stA R, stO R, stT R, stW R, stI Γ R⟩
def rd (Γ : Gm) : Nat → Rd
  | 0 => .bot
  | n + 1 => stp Γ (rd Γ n)
end Pw
set_option Elab.async false
set_option linter.all false
set_option maxRecDepth 100000
set_option maxHeartbeats 4000000
/-! the readings computed are readings -/
namespace Pw
open PySem PySem.Spec PyProof.Rows L2

section
variable {P : Program} {w : World} {K : PySem.W.Frag} {mg : Str → Option Value} {base : Heap} {k : Nat} {c : Cn} {X : Cx} {Γ : Gm} {R : Rd}
theorem Fit.un (F : Fit P w K mg base k c X) : X.A.units + 65 < cLine := by have := F.at_.room.un; omega
theorem Fit.tgIx (F : Fit P w K mg base k c X) {x : Str} {i : Nat} (h : tgIx c x = some i) : X.N.Nodup ∧ X.N[i]? = some x ∧ Loc X.env.scope x ∧ (X.fn x = true ∨ X.env.scope.names.lookup x = some .local) := by
  unfold Pw.tgIx at h
  split at h
  · rename_i e
    rw [Bool.and_eq_true, Bool.or_eq_true] at e
    refine ⟨by rw [F.N]; exact F.nd, by rw [F.N]; exact ixOf_ok h, by rw [F.sc]; exact locB_ok e.1, ?_⟩
    rcases e.2 with q | q
    · exact .inl (F.fb x q)
    · exact .inr (by rw [F.sc]; exact lclB_ok q)
  · cases h
theorem Fit.gl (F : Fit P w K mg base k c X) {x : Str} (h : glB c.sc x = true) : Gl X x := by
  show X.env.scope.names.lookup x = _
  rw [F.sc]; exact glB_ok h
theorem Fit.blk (F : Fit P w K mg base k c X) (s : Shared) (H : Hp) (scope : Scope) (C : Addr) (cl : List (Str × Addr)) (fp : List Addr) : Fit P w K mg base k (blkCn c scope) (X.blk s H scope (compEnvC scope cl C X.env) fp) :=
  ⟨F.at_.blk s H scope _ fp, F.N, F.nd, by show relS scope X.env.scope = _; rw [F.sc]; rfl, fun x h => h⟩
theorem pgs_of (F : Fit P w K mg base k c X) : ∀ {es : List Expr} {is : List Nat}, nmsIx c es = some is → PGs X es (gsOf is) ∧ (assignEach es X.env).length = is.length ∧ (assignEach es X.env).findIdx? (·.1) = none
  | [], is, h => by
    unfold nmsIx at h
    cases h
    exact ⟨pgs_nil, rfl, rfl⟩
  | e :: es, is, h => by
    unfold nmsIx at h
    split at h
    · rename_i i is' h1 h2
      cases h
      obtain ⟨a, b, d⟩ := pgs_of F h2
      cases e with
      | Name x p =>
        obtain ⟨q1, q2, q3, q4⟩ := F.tgIx (show tgIx c x = some i from h1)
        refine ⟨pgs_cons (pg_name q1 q2 q3 q4) a rfl, by show (assignEach es X.env).length + 1 = _; rw [b]; rfl, ?_⟩
        show List.findIdx? _ ((false, assign (.Name x p) X.env) :: assignEach es X.env) = none
        rw [List.findIdx?_cons, d]; rfl
      | _ => cases h1
    · cases h
theorem pg_ct (F : Fit P w K mg base k c X) {tg : Expr} {ct : CT} (h : ctOf c tg = some ct) : PG X tg (ct.g X.K) := by
  cases tg with
  | Name x p =>
    have h : (tgIx c x).map CT.one = some ct := h
    cases q : tgIx c x with
    | none => rw [q] at h; cases h
    | some i =>
      rw [q] at h; cases h
      obtain ⟨q1, q2, q3, q4⟩ := F.tgIx q
      exact pg_name q1 q2 q3 q4
  | Tuple es kk p =>
    have h : (nmsIx c es).map CT.many = some ct := h
    cases q : nmsIx c es with
    | none => rw [q] at h; cases h
    | some is =>
      rw [q] at h; cases h
      obtain ⟨a, b, d⟩ := pgs_of F q
      exact pg_tup F.at_.calm a b d
  | _ => cases h
theorem fold_ok {iter : Expr} {env : Env} (h : noSet iter = true) : ∀ x, foldedSetIterable iter env x = pure x := by
  intro x
  cases iter <;> first | rfl | cases h
/-- what a comprehension asks -/
structure CompOk (X : Cx) (elt tg iter : Expr) (ifs : List Expr) (scope : Scope) (own : List (Str × Nat)) (wi : I') (ct : CT) (t : T') (te : E') : Prop where
  hi : PI' X tg iter wi
  ok : BlkOk X.N X.env.scope scope own
  hg : ∀ (s : Shared) (H : Hp) (C : Addr) (cl : List (Str × Addr)) (fp : List Addr), PG (X.blk s H scope (compEnvC scope cl C X.env) fp) tg (ct.g X.K)
  ht : ∀ (s : Shared) (H : Hp) (C : Addr) (cl : List (Str × Addr)) (fp : List Addr), PTs' (X.blk s H scope (compEnvC scope cl C X.env) fp) ifs t
  he : ∀ (s : Shared) (H : Hp) (C : Addr) (cl : List (Str × Addr)) (fp : List Addr), PE' (X.blk s H scope (compEnvC scope cl C X.env) fp) elt te
  hs : ∀ x, foldedSetIterable iter X.env x = pure x
  ho : ∀ i ∈ ct.slots, i ∈ own.map (·.2)
theorem stComp_ok (hR : R.Ok P w K mg base k) (F : Fit P w K mg base k c X) (elt tg iter : Expr) (ifs : List Expr) (scope : Scope) : stComp R c elt tg iter ifs scope = noE ∨
    ∃ wi ct t te, stComp R c elt tg iter ifs scope = comp' wi ct ((ownOf c.N scope).map (·.2)) t te ∧ CompOk X elt tg iter ifs scope (ownOf c.N scope) wi ct t te := by
  unfold stComp
  split
  · rename_i hb
    rw [Bool.and_eq_true] at hb
    split
    · rename_i ct hct
      split
      · rename_i hsl
        have hbo : BlkOk X.N X.env.scope scope (ownOf c.N scope) := by rw [F.N, F.sc]; exact blkOk_by hb.1
        have hsl' : ∀ i ∈ ct.slots, i ∈ (ownOf c.N scope).map (·.2) := fun i hi => by
          have := List.all_eq_true.mp hsl i hi
          simpa using this
        cases ifs with
        | nil => exact .inr ⟨_, ct, _, _, rfl, hR.I c X tg iter F, hbo, fun s H C cl fp => pg_ct (F.blk s H scope C cl fp) hct, fun s H C cl fp => pts_nil', fun s H C cl fp => hR.E _ _ elt (F.blk s H scope C cl fp), fold_ok hb.2, hsl'⟩
        | cons t r =>
          cases r with
          | nil => exact .inr ⟨_, ct, _, _, rfl, hR.I c X tg iter F, hbo, fun s H C cl fp => pg_ct (F.blk s H scope C cl fp) hct, fun s H C cl fp => pts_one' (hR.T _ _ t (F.blk s H scope C cl fp)), fun s H C cl fp => hR.E _ _ elt (F.blk s H scope C cl fp), fold_ok hb.2, hsl'⟩
          | cons _ _ => exact .inl rfl
      · exact .inl rfl
    · exact .inl rfl
  · exact .inl rfl
theorem pe_stComp (hR : R.Ok P w K mg base k) (F : Fit P w K mg base k c X) {elt tg iter : Expr} {ifs : List Expr} {scope : Scope} {pos : Pos} : PE' X (.ListComp elt [⟨tg, iter, ifs, 0⟩] scope pos) (stComp R c elt tg iter ifs scope) := by
  rcases stComp_ok hR F elt tg iter ifs scope with e | ⟨wi, ct, t, te, e, o⟩
  · rw [e]; exact pe_no
  · rw [e]
    exact pe_comp' F.at_.calm (by rw [F.N]; exact F.nd) o.hi o.ok o.hg o.ht o.he o.hs o.ho
theorem stCall_ok (hΓ : Γ.Ok P w K mg base k) (hR : R.Ok P w K mg base k) (F : Fit P w K mg base k c X) (f : Expr) (es : List Expr) (cpos : Pos) : PE' X (.Call f es [] cpos) (stCall Γ R c cpos f es) := by
  unfold stCall
  split
  · rename_i x p
    split
    · rename_i hg
      rw [Bool.and_eq_true] at hg
      have gl := F.gl hg.1
      split
      · split
        · rename_i r e
          exact hΓ.fn0 x r e X F.at_ gl p cpos
        · exact pe_no
      · rename_i e es
        split
        · rename_i hp
          split
          · rename_i r er
            exact hΓ.fn x r er X F.at_ gl e es _ p cpos hp (hR.A c X _ F)
          · exact pe_no
        · exact pe_no
    · exact pe_no
  · rename_i o name apos
    split
    · rename_i ho
      rw [Bool.and_eq_true] at ho
      split
      · rename_i T id r er
        obtain ⟨pa, sl, ty, mt⟩ := hΓ.mt name T id r er
        split
        · exact pe_meth0' pa sl ty (mt X F.at_) (hR.E c X o F) ho.1 ho.2
        · rename_i e es
          split
          · rename_i hp
            rw [Bool.and_eq_true, decide_eq_true_eq] at hp
            exact pe_meth' pa sl ty (mt X F.at_) (hR.E c X o F) (hR.A c X _ F) ho.1 hp.1 hp.2 ho.2
          · exact pe_no
      · exact pe_no
    · exact pe_no
  · exact pe_no
theorem stE_ok (hΓ : Γ.Ok P w K mg base k) (hR : R.Ok P w K mg base k) (F : Fit P w K mg base k c X) (e : Expr) : PE' X e (stE Γ R c e) := by
  unfold stE
  split
  · rename_i x pos
    split
    · rename_i hd
      rw [Bool.and_eq_true, Bool.not_eq_true', Bool.not_eq_true'] at hd
      split
      · rename_i hv
        split
        · rename_i i e
          exact pe_var' (by rw [F.N]; exact ixOf_ok e) (by rw [F.sc]; exact visB_ok hv) hd.1 hd.2
        · exact pe_no
      · split
        · rename_i hg
          split
          · rename_i d e
            exact hΓ.gv x d e X F.at_ (F.gl hg) pos
          · exact pe_no
        · exact pe_no
    · exact pe_no
  · exact pe_int'
  · exact pe_str'
  · exact pe_bl'
  · exact pe_non'
  · split
    · rename_i r e
      exact pe_op' (opR_ok e) (hR.E c X _ F) (hR.E c X _ F)
    · exact pe_no
  · exact pe_neg' (hR.E c X _ F)
  · exact pe_not' (hR.E c X _ F)
  · exact pe_ite' (hR.T c X _ F) (hR.E c X _ F) (hR.E c X _ F)
  · exact pe_one (hR.E c X _ F)
  · exact pe_and' (hR.E c X _ F) (hR.E c X _ F)
  · exact pe_or' (hR.E c X _ F) (hR.E c X _ F)
  · split
    · rename_i h
      exact pe_cmp' (cmR_ok F.un) (hR.E c X _ F) (hR.E c X _ F) h
    · exact pe_no
  · split
    · rename_i h
      exact pe_chain' (cmR_ok F.un) (cmR_ok F.un) (hR.E c X _ F) (hR.E c X _ F) (hR.E c X _ F) h
    · exact pe_no
  · exact pe_slice' (hR.E c X _ F) (hR.O c X _ F) (hR.O c X _ F)
  · split
    · rename_i h
      exact pe_ix' ix' (hR.E c X _ F) (hR.E c X _ F) (ixB_ok h)
    · exact pe_no
  · exact pe_tup' (hR.A c X _ F)
  · exact pe_lst' (hR.A c X _ F)
  · exact pe_stComp hR F
  · split
    · exact pe_no
    · split
      · exact hΓ.ext R hR c X _ F
      · split
        · exact stCall_ok hΓ hR F _ _ _
        · exact hΓ.ext R hR c X _ F
  · split
    · exact stCall_ok hΓ hR F _ _ _
    · exact hΓ.ext R hR c X _ F
  · exact hΓ.ext R hR c X _ F
theorem stA_ok (hR : R.Ok P w K mg base k) (F : Fit P w K mg base k c X) (es : List Expr) : PA' X es (stA R c es) := by
  unfold stA
  split
  · exact pa_nil'
  · split
    · rename_i h
      exact pa_cons' (hR.E c X _ F) (hR.A c X _ F) (star1 h)
    · exact pa_no
theorem stO_ok (hR : R.Ok P w K mg base k) (F : Fit P w K mg base k c X) (e : Option Expr) : PO' X e (stO R c e) := by
  unfold stO
  split
  · exact po_none'
  · exact po_some' (hR.E c X _ F)
theorem stW_ok (hR : R.Ok P w K mg base k) (F : Fit P w K mg base k c X) (e : Expr) : PW' X e (stW R c e) := by
  unfold stW
  split
  · exact pw_and1 (hR.T c X _ F)
  · exact pw_or1 (hR.T c X _ F)
  · exact pw_and' (hR.T c X _ F) (hR.W c X _ F)
  · exact pw_or' (hR.T c X _ F) (hR.W c X _ F)
  · exact pw_no
def plainT : Expr → Bool
  | .UnaryOp .Not _ _ => false
  | .BoolOp _ _ _ => false
  | .IfExp _ _ _ _ => false
  | .Compare _ _ _ _ => false
  | _ => true
theorem plainT_ok {e : Expr} {env : Env} (h : plainT e = true) : ∀ whole, isTrue e env whole = (do let v ← whole; standAt e.pos; holding [v] (truthy v)) := by
  intro whole
  cases e with
  | UnaryOp op a p => cases op <;> first | rfl | cases h
  | _ => first | rfl | cases h
theorem stT_def {e : Expr} (h : plainT e = true) : stT R c e = tt' (R.E c e) := by
  cases e with
  | UnaryOp op a p => cases op <;> first | rfl | cases h
  | _ => first | rfl | cases h
theorem stT_cmp (hR : R.Ok P w K mg base k) (F : Fit P w K mg base k c X) (a : Expr) (ops : List CmpOp) (es : List Expr) (p : Pos) : PT' X (.Compare a ops es p) (stT R c (.Compare a ops es p)) := by
  match ops, es with
  | [op], [b] =>
    show PT' X _ (if behindInMarks op b = false then tt' (b2' (cmR op) (R.E c a) (R.E c b)) else noT)
    split
    · rename_i h
      exact pt_cmp' (cmR_ok F.un) (hR.E c X _ F) (hR.E c X _ F) h (cmR_bl _)
    · exact pt_no
  | [op, op'], [b, d] =>
    show PT' X _ (if lastMarks [op, op'] [b, d] = false then tt' (chain' (cmR op) (cmR op') (R.E c a) (R.E c b) (R.E c d)) else noT)
    split
    · rename_i h
      exact pt_chain' (cmR_ok F.un) (cmR_ok F.un) (cmR_bl _) (hR.E c X _ F) (hR.E c X _ F) (hR.E c X _ F) h
    · exact pt_no
  | [], [] => exact pt_no
  | [], [_] => exact pt_no
  | [], _ :: _ :: _ => exact pt_no
  | [_], [] => exact pt_no
  | [_], _ :: _ :: _ => exact pt_no
  | [_, _], [] => exact pt_no
  | [_, _], [_] => exact pt_no
  | [_, _], _ :: _ :: _ :: _ => exact pt_no
  | _ :: _ :: _ :: _, [] => exact pt_no
  | _ :: _ :: _ :: _, [_] => exact pt_no
  | _ :: _ :: _ :: _, [_, _] => exact pt_no
  | _ :: _ :: _ :: _, _ :: _ :: _ :: _ => exact pt_no
theorem stT_ok (hR : R.Ok P w K mg base k) (F : Fit P w K mg base k c X) (e : Expr) : PT' X e (stT R c e) := by
  cases hp : plainT e with
  | true => rw [stT_def hp]; exact pt_tru' (hR.E c X _ F) (plainT_ok hp)
  | false =>
    cases e with
    | UnaryOp op a p =>
      cases op with
      | Not => exact pt_not' (hR.T c X _ F)
      | _ => cases hp
    | BoolOp op es p => exact L2.PW.pt (hR.W c X _ F)
    | IfExp a b d p => exact pt_no
    | Compare a ops es p => exact stT_cmp hR F a ops es p
    | _ => cases hp
theorem stIc_ok (hΓ : Γ.Ok P w K mg base k) (hR : R.Ok P w K mg base k) (F : Fit P w K mg base k c X) (tg : Expr) (x : Str) (p pos : Pos) (es : List Expr) : PI' X tg (.Call (.Name x p) es [] pos) (stIc Γ R c x es) := by
  have hm := F.at_.m
  unfold stIc
  split
  · rename_i hg
    rw [Bool.and_eq_true] at hg
    have gl := F.gl hg.1
    split
    · rename_i hx
      subst hx
      have h0 : X.mg "range" = none := by rw [hm]; exact hΓ.rng
      split
      · rename_i a
        have hp : (plainE a && true) = true := hg.2
        rw [Bool.and_true] at hp
        exact pi_rng1' gl h0 (hR.A c X _ F) (star1 hp)
      · rename_i a b
        have hp : (plainE a && (plainE b && true)) = true := hg.2
        rw [Bool.and_true, Bool.and_eq_true] at hp
        exact pi_rng2' gl h0 (hR.A c X _ F) (by rw [star1 hp.1, star1 hp.2]; rfl) (star1 hp.2)
      · rename_i a b d
        have hp : (plainE a && [b, d].all plainE) = true := hg.2
        rw [Bool.and_eq_true] at hp
        exact pi_rng3' gl h0 (hR.A c X _ F) (star1 hp.1) (star_all hp.2)
      · exact pi_no
    · split
      · rename_i _ hx
        subst hx
        have h0 : X.mg "reversed" = none := by rw [hm]; exact hΓ.rvd
        split
        · rename_i a
          have hp : (plainE a && true) = true := hg.2
          rw [Bool.and_true] at hp
          exact pi_rev' gl h0 (hR.E c X _ F) (star1 hp)
        · exact pi_no
      · exact pi_no
  · exact pi_no
theorem stIt_ok (hΓ : Γ.Ok P w K mg base k) (hR : R.Ok P w K mg base k) (F : Fit P w K mg base k c X) (elts : List Expr) (kk : Nat) (tpos : Pos) (x : Str) (p pos : Pos) (es : List Expr) : PI' X (.Tuple elts kk tpos) (.Call (.Name x p) es [] pos) (stIt Γ R c x es) := by
  have hm := F.at_.m
  unfold stIt
  split
  · rename_i hg
    rw [Bool.and_eq_true] at hg
    have gl := F.gl hg.1
    split
    · rename_i hx
      subst hx
      have h0 : X.mg "enumerate" = none := by rw [hm]; exact hΓ.enu
      split
      · rename_i a
        have hp : (plainE a && true) = true := hg.2
        rw [Bool.and_true] at hp
        exact pi_enum' gl h0 (hR.E c X _ F) (star1 hp)
      · exact pi_no
    · split
      · rename_i _ hx
        subst hx
        have h0 : X.mg "zip" = none := by rw [hm]; exact hΓ.zip
        split
        · rename_i a b
          have hp : (plainE a && [b].all plainE) = true := hg.2
          rw [Bool.and_eq_true] at hp
          exact pi_zip' gl h0 (hR.A c X _ F) (star1 hp.1) (star_all hp.2)
        · exact pi_no
      · exact pi_no
  · exact pi_no
theorem stI_ok (hΓ : Γ.Ok P w K mg base k) (hR : R.Ok P w K mg base k) (F : Fit P w K mg base k c X) (tg e : Expr) : PI' X tg e (stI Γ R c tg e) := by
  unfold stI
  split
  · rename_i x p es pos
    split
    · exact stIc_ok hΓ hR F tg x p pos es
    · split
      · split
        · rename_i ht
          cases tg with
          | Tuple elts kk tpos => exact stIt_ok hΓ hR F elts kk tpos x p pos es
          | _ => cases ht
        · exact pi_no
      · split
        · exact pi_val' (hR.E c X _ F)
        · exact hΓ.exi R hR c X tg _ F
  · exact hΓ.exi R hR c X tg _ F
  · exact pi_val' (hR.E c X _ F)
theorem rd_ok (hΓ : Γ.Ok P w K mg base k) : ∀ n, (rd Γ n).Ok P w K mg base k
  | 0 => bot_ok
  | n + 1 => by
    have h := rd_ok hΓ n
    exact ⟨fun c X e F => stE_ok hΓ h F e, fun c X e F => stA_ok h F e, fun c X e F => stO_ok h F e, fun c X e F => stT_ok h F e, fun c X e F => stW_ok h F e, fun c X tg e F => stI_ok hΓ h F tg e⟩
end
end Pw
set_option Elab.async false
set_option linter.all false
set_option maxRecDepth 100000
set_option maxHeartbeats 4000000
/-! statements, defs -/
namespace Pw
open PySem PySem.Spec PyProof.Rows L2

def noG : G' := fun _ _ _ _ => False
def stGs (g : Expr → G') : List Expr → Gs'
  | [] => gNil'
  | e :: es => gCons' (g e) (stGs g es)
def stG (Γ : Gm) (R : Rd) (c : Cn) : Nat → Expr → G'
  | 0, _ => noG
  | n + 1, e => match e with
    | .Name x _ => (match tgIx c x with | some i => gName' i | none => noG)
    | .Tuple es _ _ => if es.all plainE = true then gTup' es.length (stGs (stG Γ R c n) es) else noG
    | .Subscript o i _ => if ixB i = true then gSub' (R.E c o) (R.E c i) else noG
    | e => Γ.exg R c e
/-- the value is no comprehension -/
def noComp : Expr → Bool
  | .ListComp _ _ _ _ => false
  | .SetComp _ _ _ _ => false
  | .DictComp _ _ _ _ _ => false
  | _ => true
def noLst : Expr → Bool
  | .List _ _ => false
  | _ => true
def noName : Expr → Bool
  | .Name _ _ => false
  | _ => true
def stS (Γ : Gm) (R : Rd) (c : Cn) (B : List Stmt → S') : Stmt → S'
  | .Assign [.Name y _] (.ListComp elt [⟨tg, iter, ifs, 0⟩] scope _) _ => (match tgIx c y with
    | some i => asg' (stComp R c elt tg iter ifs scope) (gName' i)
    | none => noS)
  | .Assign [.Name y _] e _ => if noComp e = true then (match tgIx c y with | some i => asg' (R.E c e) (gName' i) | none => noS) else noS
  | .Assign [tg] e _ => if (noName tg && noComp e && (!isTup tg || !isTup e) && plainE tg && noLst tg) = true then asg' (R.E c e) (stG Γ R c 4 tg) else noS
  | .Expr e _ => if noComp e = true then (fun Z ρ M => R.E c e ρ M fun _ M1 => Z.nx ρ M1) else noS
  | .Return (some e) _ => fun Z ρ M => R.E c e ρ M Z.rt
  | .Return none _ => fun Z _ M => Z.rt .non M
  | .If t a b _ => if' (R.T c t) (B a) (B b)
  | .For tg iter body [] _ => if noSet iter = true then for' (R.I c tg iter) (stG Γ R c 4 tg) (B body) else noS
  | .While t body [] _ => whl' (R.T c t) (B body)
  | .Pass _ => next'
  | .Break _ => fun Z ρ M => Z.bk ρ M
  | .Continue _ => fun Z ρ M => Z.ct ρ M
  | st => Γ.exs R c B st
def wB (Γ : Gm) (R : Rd) (c : Cn) : Nat → List Stmt → S'
  | 0, _ => noS
  | _ + 1, [] => next'
  | n + 1, st :: r => seq' (stS Γ R c (wB Γ R c n) st) (wB Γ R c n r)
section
variable {P : Program} {w : World} {K : PySem.W.Frag} {mg : Str → Option Value} {base : Heap} {k : Nat} {c : Cn} {X : Cx} {Γ : Gm} {R : Rd}
theorem pg_no {e : Expr} : PG' X e noG := ⟨fun _ _ _ _ _ _ _ _ _ h => by obtain ⟨_, _, _, _, _, _, _, z, _⟩ := h; exact z.elim⟩
theorem each_plain : ∀ {es : List Expr} {env : Env}, es.all plainE = true → (assignEach es env).length = es.length ∧ (assignEach es env).findIdx? (·.1) = none
  | [], _, _ => ⟨rfl, rfl⟩
  | e :: es, env, h => by
    rw [List.all_cons, Bool.and_eq_true] at h
    obtain ⟨a, b⟩ := each_plain (env := env) h.2
    have e1 : assignEach (e :: es) env = (false, assign e env) :: assignEach es env := by
      have := h.1
      cases e <;> first | rfl | cases this
    rw [e1]
    refine ⟨by simp [a], ?_⟩
    rw [List.findIdx?_cons, b]; rfl
theorem each1 {e : Expr} {es : List Expr} {env : Env} (h : plainE e = true) : assignEach (e :: es) env = (false, assign e env) :: assignEach es env := by
  cases e <;> first | rfl | cases h
theorem stG_ok (hΓ : Γ.Ok P w K mg base k) (hR : R.Ok P w K mg base k) (F : Fit P w K mg base k c X) : ∀ n e, PG' X e (stG Γ R c n e)
  | 0, e => pg_no
  | n + 1, e => by
    have ih := stG_ok hΓ hR F n
    have gs : ∀ es : List Expr, es.all plainE = true → PGs' X es (stGs (stG Γ R c n) es) := by
      intro es
      induction es with
      | nil => intro _; exact pgs_nil'
      | cons e es ihs =>
        intro h
        rw [List.all_cons, Bool.and_eq_true] at h
        exact pgs_cons' (ih e) (ihs h.2) (by rw [each1 h.1]; rfl)
    unfold stG
    split
    · split
      · rename_i i e
        obtain ⟨q1, q2, q3, q4⟩ := F.tgIx e
        exact pg_name' q1 q2 q3 q4
      · exact pg_no
    · split
      · rename_i h
        exact pg_tup' F.at_.calm (gs _ h) (each_plain h).1 (each_plain h).2
      · exact pg_no
    · split
      · rename_i o i pos h
        refine pg_sub' (hR.E c X _ F) (hR.E c X _ F) fun v => ?_
        cases i <;> first | rfl | cases h
      · exact pg_no
    · exact hΓ.exg R hR c X _ F
theorem sw_no {e : Expr} {t : Option Expr} {l : Nat} {env : Env} (h : noComp e = true) : swapsWith e t l env = pure false := by
  cases e <;> first | rfl | cases h
theorem sws_no {tg e : Expr} {l : Nat} {env : Env} (h : noComp e = true) : swapsWithSole [tg] e l env = pure false := sw_no h
theorem st_no {tg e : Expr} {env : Env} (h : (!isTup tg || !isTup e) = true) (h2 : noLst tg = true) : swappedStores [tg] e env = pure none := by
  cases tg <;> cases e <;> first
    | rfl
    | (cases h; done)
    | (cases h2; done)
theorem ps_setC (hR : R.Ok P w K mg base k) (F : Fit P w K mg base k c X) {y : Str} {i : Nat} (hy : tgIx c y = some i) {py pos spos : Pos} {elt tg iter : Expr} {ifs : List Expr} {scope : Scope} :
    PS' X (.Assign [.Name y py] (.ListComp elt [⟨tg, iter, ifs, 0⟩] scope pos) spos) (asg' (stComp R c elt tg iter ifs scope) (gName' i)) := by
  obtain ⟨q1, q2, q3, q4⟩ := F.tgIx hy
  rcases stComp_ok hR F elt tg iter ifs scope with e | ⟨wi, ct, t, te, e, o⟩
  · rw [e]
    exact ⟨fun _ _ _ _ _ _ h => by obtain ⟨_, _, _, _, _, z, _⟩ := h; exact z.elim⟩
  · rw [e]
    have hN : X.N.Nodup := q1
    cases hb : (X.env.blockKind == .function && X.env.kindOf y == some .local && py.line == pos.line && !(scope.names.any fun (n, k) => n == y && (k == .local || k == .cell))) with
    | true =>
      have hsw : swapsWith (.ListComp elt [⟨tg, iter, ifs, 0⟩] scope pos) (some (.Name y py)) spos.line X.env = pure true := by
        unfold swapsWith
        show (pure _ : Sem Bool) = _
        rw [← hb]; rfl
      have hl : X.env.scope.names.lookup y = some .local := by
        simp only [Bool.and_eq_true] at hb
        have := hb.1.1.2
        exact (beq_iff_eq.mp this : X.env.kindOf y = some .local)
      exact ps_setComp' F.at_.calm hN q2 hl hsw o.hi o.ok o.hg o.ht o.he o.hs o.ho
    | false =>
      have hsw : swapsWith (.ListComp elt [⟨tg, iter, ifs, 0⟩] scope pos) (some (.Name y py)) spos.line X.env = pure false := by
        unfold swapsWith
        show (pure _ : Sem Bool) = _
        rw [← hb]; rfl
      exact ps_set' hN q2 q3 (pe_comp' F.at_.calm hN o.hi o.ok o.hg o.ht o.he o.hs o.ho) hsw q4
theorem stS_ok (hΓ : Γ.Ok P w K mg base k) (hR : R.Ok P w K mg base k) (F : Fit P w K mg base k c X) (po : PassesOwn (model X.prog X.w) X.A X.env X.xe) {B : List Stmt → S'} (hB : ∀ b, PSs' X b (B b)) (st : Stmt) : PS' X st (stS Γ R c B st) := by
  unfold stS
  split
  · split
    · rename_i i e
      exact ps_setC hR F e
    · exact ps_no
  · split
    · rename_i h
      split
      · rename_i i e
        obtain ⟨q1, q2, q3, q4⟩ := F.tgIx e
        exact ps_set' q1 q2 q3 (hR.E c X _ F) (sw_no h) q4
      · exact ps_no
    · exact ps_no
  · rename_i tg e pos _ _
    split
    · rename_i h
      simp only [Bool.and_eq_true] at h
      obtain ⟨⟨⟨⟨h1, h2⟩, h3⟩, h4⟩, h5⟩ := h
      exact ps_asg' (hR.E c X _ F) (stG_ok hΓ hR F 4 tg) (sws_no h2) (st_no h3 h5) (by rw [each1 h4]; rfl)
    · exact ps_no
  · split
    · rename_i h
      exact ps_expr' (hR.E c X _ F) (sw_no h)
    · exact ps_no
  · exact ps_ret' (hR.E c X _ F)
  · exact ps_retN'
  · exact ps_if' (hR.T c X _ F) (hB _) (hB _)
  · split
    · rename_i h
      exact ps_for' po F.at_.calm (hR.I c X _ _ F) (stG_ok hΓ hR F 4 _) (hB _) (fold_ok h)
    · exact ps_no
  · exact ps_while' po (hR.T c X _ F) (hB _)
  · exact ps_pass'
  · exact ps_break'
  · exact ps_cont'
  · exact hΓ.exs R hR c X B _ F po hB
theorem wB_ok (hΓ : Γ.Ok P w K mg base k) (hR : R.Ok P w K mg base k) (F : Fit P w K mg base k c X) (po : PassesOwn (model X.prog X.w) X.A X.env X.xe) : ∀ n b, PSs' X b (wB Γ R c n b)
  | 0, b => pss_no
  | n + 1, [] => pss_nil'
  | n + 1, st :: r => pss_cons' (stS_ok hΓ hR F po (wB_ok hΓ hR F po n) st) (wB_ok hΓ hR F po n r)
end
end Pw
set_option Elab.async false
set_option linter.all false
set_option maxRecDepth 100000
set_option maxHeartbeats 4000000
/-! a def by its text; the law's call -/
namespace Pw
open PySem PySem.Spec PyProof.Rows L2

def Up (Q : Q1) : Q1 := fun d M => ∃ M0 : Mp, M0.le M ∧ Q d M0
theorem Up.of {Q : Q1} {d : D} {M : Mp} (h : Q d M) : Up Q d M := ⟨M, fun _ _ h => h, h⟩
def startD (N : List Str) (ds : List D) : Rho := ds.map some ++ List.replicate (N.length - ds.length) none
theorem start_sim {K : PySem.W.Frag} {H : Hp} {N : List Str} {ds : List D} {vs : List V} (r : RepL K H ds vs) : SimS K H (L2.start N vs) (startD N ds) := by
  have hl := r.len
  refine ⟨by unfold L2.start startD; simp [hl], fun i d e => ?_⟩
  unfold startD at e
  unfold L2.start
  by_cases hi : i < ds.length
  · rw [List.getElem?_append_left (by simpa using hi), List.getElem?_map] at e
    rw [List.getElem?_append_left (by simpa [hl] using hi), List.getElem?_map]
    cases q : ds[i]? with
    | none => rw [q] at e; cases e
    | some d' =>
      rw [q] at e; cases e
      obtain ⟨v, a, b⟩ := r.get q
      exact ⟨v, by rw [a]; rfl, b⟩
  · rw [List.getElem?_append_right (by simpa using hi), List.getElem?_replicate] at e
    split at e <;> cases e
/-- the reading of a def's body, run -/
def runB (Γ : Gm) (n m : Nat) (N : List Str) (sc : Scope) (body : List Stmt) (ds : List D) (M : Mp) (Q : Q1) : Prop :=
  wB Γ (rd Γ n) ⟨N, sc, fun _ => true⟩ m body { nx := fun _ M' => Up Q .non M', rt := Up Q } (startD N ds) M
section
variable {P : Program} {w : World} {K : PySem.W.Frag} {mg : Str → Option Value} {base : Heap} {k n m : Nat} {Γ : Gm}
theorem fn_body {x qual : Str} {params : Arguments} {body : List Stmt} {scope : Scope} {dvs : List V} {kws : List (Str × V)} {f : Addr} {fd : FuncData} {N ps : List Str} {r : RC'}
    (F : FunD K x qual params body scope dvs kws f fd) (S : FnScope N ps scope) (hΓ : Γ.Ok P w K mg base k) (len : ∀ ds M Q, r ds M Q → ds.length = ps.length)
    (hb : ∀ ds M Q, r ds M Q → runB Γ n m N scope body ds M Q) : Fn P w K mg base (k + 1) f fd ps r := by
  obtain ⟨oc, od, dV, kV, doc, pm, an, cdv, ct, osl, rfl, lk, hcd, _, _⟩ := F.ex
  refine ⟨fun A outer s H ar us vs ds M Qd hr hg e0 bt hn rv rd sm hq => ?_⟩
  have kin : K.In s.heap := e0.mod.kin.keeps fun b o e => (e0.bs b o e).1
  have nl : s.heap.NoLimit := e0.mod.nolimit.keeps fun b o e => (e0.bs b o e).1
  have hl : vs.length = ps.length := by rw [rd.len]; exact len _ _ _ hq
  refine codeAny_call_function hr.depth (kin _ _ lk) rfl S.co S.gen rfl (PySem.W.codeRec_of kin hcd) (bt _ _ _ _ ?_)
  refine wpAny_newFunctionEnv_cells S.kind (fun y hy => ?_) fun env he s1 x1 => ?_
  · rcases S.par y.1 (List.of_mem_zip (show (y.1, y.2) ∈ ps.zip us from hy)).1 with q | q
    · exact .inl q
    · exact .inr ⟨q, PySem.W.cellsFrom_some _ _ _ (.inl q)⟩
  subst he
  refine ⟨nl.keeps x1.toInCall.keep, codeAny_func ?_⟩
  have I := inv_start (CX := CX0) (E := E0) (w := w) (P := P) (mg := mg) (base := base) (K := K) (N := N) (qual := qual) (f := f) (cd := cdv) S hr.hd e0 hl rv x1
  have hfit : Fit P w K mg base k ⟨N, scope, fun _ => true⟩ (cxOf CX0 P w K mg base N qual scope f cdv A outer s H E0).nox :=
    ⟨⟨rfl, rfl, rfl, rfl, rfl, rfl, hr.deeper _, hg⟩, rfl, S.nd, rfl, fun _ _ => rfl⟩
  have hps : PSs' (cxOf CX0 P w K mg base N qual scope f cdv A outer s H E0) body (wB Γ (Pw.rd Γ n) ⟨N, scope, fun _ => true⟩ m body) :=
    PSs.nox (wB_ok hΓ (rd_ok hΓ n) hfit PassesOwn.never m body)
  have hw := hb ds M Qd hq
  let Qv : VK := fun v H' => ∃ d M', Qd d M' ∧ TX H H' ∧ Sim K H' M' ∧ Rep K H' d v
  have run := hps.run [] s1 (L2.start N vs) H { nx := fun _ H' => Qv .non H', rt := Qv } I ⟨_, M, _, start_sim rd, sm, hw,
    ⟨fun ρ M' σ H' q tx ss mm => by obtain ⟨M0, hle, q⟩ := q; exact ⟨_, M0, q, tx, mm.le hle, mk_non⟩, fun ρ M' σ H' q => q.elim, fun ρ M' σ H' q => q.elim,
      fun d M' v H' q tx mm rr => by obtain ⟨M0, hle, q⟩ := q; exact ⟨d, M0, q, tx, mm.le hle, rr⟩⟩⟩
  refine wpAny_mono run (fun fl s' hs => ?_) fun e s' hs => hs
  have done : ∀ {σ' : L2.St} {H' : Hp} {v : V} {u : Value}, Inv (cxOf CX0 P w K mg base N qual scope f cdv A outer s H E0) [] σ' H' s' → RelV v u → Qv v H' → CE outer P w H s Qv u s' :=
    fun J rv q => ⟨_, _, J.os, J.bare, J.base, J.hok, rv, q⟩
  match fl, hs with
  | .ret u, ⟨v, σ', H', J, rv, q⟩ => exact done J rv q
  | .next, ⟨σ', H', J, q⟩ => exact done (v := V.non) (u := Value.none) J rfl q
  | .brk, ⟨_, _, _, q⟩ => exact False.elim q
  | .cont, ⟨_, _, _, q⟩ => exact False.elim q
end

/-! ### the law's call -/
theorem not_frz {P : Program} {w : World} {K : PySem.W.Frag} {H : Hp} {a : Addr} {ns : List Int} (o : Only H) (h : SqL K H a (ns.map V.int)) : RoL K H a ns := by
  rcases h with (h | ⟨ob, h⟩) | h
  · rcases o a with z | ⟨ob, xs, z⟩
    · rw [z] at h; cases h
    · rw [z] at h; cases h
  · exact .inl ⟨ob, h⟩
  · exact .inr h
theorem law_goes {P : Program} {w : World} {K : PySem.W.Frag} {mg mb : Str → Option Value} {k : Nat} {fa a : Addr} {fd : FuncData} {x : Str} {r : RC'} {s : Shared} {vs : List Value} {ns : List Int}
    (kin : K.In s.heap) (gn : s.heap.Ns mainGlobals mg) (bn : s.heap.Ns builtinsNs mb) (bb : ∀ y : Str, y ≠ "__name__" → mb y = bootBuiltins y) (nl : s.heap.NoLimit) (g0 : s.gens = #[])
    (oa : s.heap.get? a = some { cls := .type "list", data := .seq vs.toArray }) (ia : IntsAre vs ns) (la : ns.length ≤ sizeLine) (rm : Room k callerA)
    (F : ∀ base : Heap, K.In base → base.Ns mainGlobals mg → Fn P w K mg base k fa fd [x] r) (bt : ∀ (s : Shared) (u : Value), BindsTo s fd ⟨[u], []⟩ [(x, u)])
    (hr : ∀ M, r [.rol a ns] M fun d _ => d = .bl true) :
    codeAny (model P w) callerA (.call (.ref fa) ⟨[.ref a], []⟩) (fun q s' => q = .ok (.ret (.bool true)) ∧ OldK s.heap s'.heap ∧ s'.os = s.os ∧ AllBare s'.gens) s := by
  have relv := vals_ints ia
  have lv := ia.length
  -- the heap as told: nothing, or the script alone
  have main : ∀ H : Hp, Only H → SqL K H a (ns.map V.int) → HOk P w H s.heap → (∀ b, H b ≠ none → b = a) → (H a ≠ none → K.lookup a = none) →
      codeAny (model P w) callerA (.call (.ref fa) ⟨[.ref a], []⟩) (fun q s' => q = .ok (.ret (.bool true)) ∧ OldK s.heap s'.heap ∧ s'.os = s.os ∧ AllBare s'.gens) s := by
    intro H only sq hok onlyA notK
    have under : ∀ {b : Addr} {o : Obj}, s.heap.get? b = some o → H b = none → (hidT s.heap H).get? b = some o := fun e z => hidT_get e z
    have isA : ∀ {b : Addr} {u : HO}, H b = some u → b = a := fun {b u} e => onlyA b (by rw [e]; exact Option.some_ne_none u)
    have nodict : ∀ {b : Addr} {o : Obj} {es : Array DictEntry} {ep : Nat}, s.heap.get? b = some o → o.data = .dict es ep → H b = none := by
      intro b o es ep e d
      cases q : H b with
      | none => rfl
      | some u =>
        cases isA q
        rw [oa] at e
        cases e
        cases (show Data.seq vs.toArray _ = Data.dict es ep from d)
    have ns_under : ∀ {b : Addr} {m : Str → Option Value}, s.heap.Ns b m → (hidT s.heap H).Ns b m := by
      rintro b m ⟨o, es, ep, e, d, z⟩
      exact ⟨o, es, ep, under e (nodict e d), d, z⟩
    have kin_under : K.In (hidT s.heap H) := by
      intro b o e
      refine under (kin b o e) ?_
      cases q : H b with
      | none => rfl
      | some u =>
        cases isA q
        rw [notK (by rw [q]; exact Option.some_ne_none u)] at e
        cases e
    have md : Mod K mg (hidT s.heap H) := by
      refine ⟨kin_under, ns_under gn, ⟨mb, ns_under bn, bb⟩, ?_⟩
      obtain ⟨mc, h1, h2⟩ := nl
      exact ⟨mc, ns_under h1, h2⟩
    have env0 : Env0 P w K mg (hidT s.heap H) callerA [] s H := by
      refine ⟨rfl, md, fun b o e => of_hidT e, Nat.le_of_eq (hidT_size _ _), trivial, fun b hb => ?_, hok, .of_eq g0⟩
      exact absurd (show b ∈ ([] : List Addr) from hb) (by simp)
    have ro : RoL K H a ns := not_frz (P := P) (w := w) only sq
    have rep : RepL K H [.rol a ns] [V.ref a] := repL_cons (by unfold Rep; exact ⟨rfl, ro⟩) repL_nil
    have go := (F _ kin_under (ns_under gn)).go callerA [] s H ⟨[.ref a], []⟩ [.ref a] [.ref a] [.rol a ns] (fun _ => none) _ rm rfl env0 (bt s (.ref a)) rfl (.cons rfl .nil) rep (fun b o e => by cases e) (hr _)
    refine codeAny_mono go fun q s' h => ?_
    match q, h with
    | .error e, h => exact h.elim
    | .ok .next, h => exact False.elim h
    | .ok .brk, h => exact False.elim h
    | .ok .cont, h => exact False.elim h
    | .ok (.ret u), ⟨v, H', os, bare, un, hok', rv, d, M', hd, tx, sm, rp⟩ =>
      subst hd
      cases rep_bl rp
      obtain rfl : u = Value.bool true := rv
      refine ⟨rfl, OldK.of_keep fun b o e => ?_, os, bare⟩
      cases q : H b with
      | none => exact un.keep b o e q (by intro z; exact absurd (show b ∈ ([] : List Addr) from z) (by simp)) (by simp)
      | some u =>
        rcases only b with z | ⟨ob, xs, z⟩
        · rw [q] at z; cases z
        · obtain ⟨e1, _⟩ := hok b _ z
          obtain ⟨e2, _⟩ := hok' b _ (un.frzs b ob _ z)
          rw [e] at e1
          cases e1
          exact e2
  cases hk : K.lookup a with
  | some o =>
    -- an object of the module's own
    have e := kin a o hk
    rw [oa] at e
    cases e
    refine main (fun _ => none) (fun _ => .inl rfl) (.inr ⟨_, vs.toArray, _, hk, rfl, rfl, rfl, ?_, by simpa using relv⟩) (fun b u z => ?_) (fun b z => absurd rfl z) fun z => absurd rfl z
    · rw [List.size_toArray, lv]; exact la
    · cases (show (none : Option HO) = some u from z)
  | none =>
    refine main (fun b => if b = a then some (.frz { cls := .type "list", data := .seq vs.toArray } (.lst (ns.map V.int))) else none) (fun b => ?_)
      (.inl (.inr ⟨{ cls := .type "list", data := .seq vs.toArray }, if_pos rfl⟩)) (fun b u z => ?_) (fun b z => ?_) fun _ => hk
    · by_cases hb : b = a
      · exact .inr ⟨_, _, if_pos hb⟩
      · exact .inl (if_neg hb)
    · by_cases hb : b = a
      · cases (if_pos hb).symm.trans z
        subst hb
        exact ⟨oa, by rw [List.length_map]; exact la, vs, _, relv, oa⟩
      · cases (if_neg hb).symm.trans z
    · by_cases hb : b = a
      · exact hb
      · exact absurd (if_neg hb) z
theorem walk_fn {l : PySem.W.OpenLaw} {n k : Nat} {q : Program} {loose : List Str} {XP : (Str → Option Value) → Heap → Prop} {YP : World → Heap → Prop} {d : DefRec} {x : Str}
    (hn : l.most = some n) (hn2 : n ≤ sizeLine) (hdf : d.params.defaults = []) (rm : Room k callerA)
    (F : ∀ (w : World) (mg : Str → Option Value) (fa : Addr) (h : Heap), YP w h → h.Ns mainGlobals mg → mg d.name = some (.ref fa) →
      ∃ (K : PySem.W.Frag) (fd : FuncData) (r : RC'), K.In h ∧ (∀ (s : Shared) (u : Value), BindsTo s fd ⟨[u], []⟩ [(x, u)]) ∧
        (∀ (a : Addr) (ns : List Int) (M : Mp), ns.length ≤ n → r [.rol a ns] M fun d _ => d = .bl true) ∧
        ∀ base : Heap, K.In base → base.Ns mainGlobals mg → Fn l.prog w K mg base k fa fd [x] r) :
    PySem.W.WalkO q loose XP YP l.row.toRowW d [] (fun f vs => PySem.call f vs) := by
  refine Att.attach_call hn hdf fun w s₀ s₁ mg mb fa o pm cd doc a vs ns G Y ho hd hcd hmg hobj hints hlen hg => ?_
  obtain ⟨K, fd, r, kin, bt, hr, hF⟩ := F w mg fa _ Y G.T.g hmg
  exact law_goes kin G.T.g G.T.b G.T.builtins G.T.nolimit hg hobj hints (Nat.le_trans hlen hn2) rm hF bt fun M => hr a ns M hlen
end Pw
set_option Elab.async false
set_option linter.all false
set_option maxRecDepth 100000
set_option maxHeartbeats 4000000
/-! tables of what may be called -/
namespace Pw
open PySem PySem.Spec PyProof.Rows L2

def runR (r : S') (N : List Str) (ds : List D) (M : Mp) (Q : Q1) : Prop := r { nx := fun _ M' => Up Q .non M', rt := Up Q } (startD N ds) M
section
variable {X : Cx}
def strsOf (M : Mp) (d : D) (ys : List Str) : Prop := match d with
  | .ref p => M p = some (.lst (ys.map .str))
  | .tup xs => xs = ys.map .str
  | _ => False
def mJoin : RM' := fun d ds M Q => match d, ds with
  | .str a, [x] => ∃ ys : List Str, strsOf M x ys ∧ (ys.map (·.length)).sum + ys.length * a.length ≤ 16777216 ∧ Q (.str (Txt.join a ys)) M
  | _, _ => False
theorem mt_join' : MtR' X "str.join" mJoin := MtR.weak mt_join (by
  rintro x xs H Q ⟨d, ds, M, Q', r, rd, m, h, k⟩
  unfold mJoin at h
  split at h
  · rename_i a y
    obtain ⟨ys, hy, hz, q⟩ := h
    obtain ⟨w, rfl, rw'⟩ := repL1 rd
    unfold strsOf at hy
    split at hy
    · rename_i p
      obtain ⟨vs, z, rr⟩ := m p _ hy
      rw [rr.strs] at z
      rw [rep_ref rw']
      exact ⟨a, p, ys, rep_str r, rfl, .inl (SqL.of z), hz, k _ _ _ _ q TX.refl m mk_str⟩
    · subst hy
      obtain ⟨p, vs, rfl, hq, rr⟩ := rep_tup rw'
      rw [rr.strs] at hq
      exact ⟨a, p, ys, rep_str r, rfl, .inr hq, hz, k _ _ _ _ q TX.refl m mk_str⟩
    · exact hy.elim
  · exact h.elim)
def mSplit : RM' := fun d ds M Q => match d, ds with
  | .str a, [.str b] => (b.length == 0) = false ∧ a.length + 2 ≤ sizeLine ∧ ∀ p, M p = none → Q (.ref p) (put M p (.lst ((Txt.split a b).map .str)))
  | _, _ => False
theorem mt_split' : MtR' X "str.split" mSplit := MtR.weak mt_split (by
  rintro x xs H Q ⟨d, ds, M, Q', r, rd, m, h, k⟩
  unfold mSplit at h
  split at h
  · rename_i a b
    obtain ⟨hb, hz, q⟩ := h
    obtain ⟨w, rfl, rw'⟩ := repL1 rd
    rw [rep_str rw']
    exact ⟨a, b, rep_str r, rfl, hb, hz, fun p n => k _ _ _ _ (q p (m.free n)) (TX.new n) (new_lst m n (repL_strs _)) mk_ref⟩
  · exact h.elim)
def mRstrip : RM' := fun d ds M Q => match d, ds with
  | .str a, [] => a.length ≤ sizeLine ∧ Q (.str (Txt.rstrip a)) M
  | .str a, [.str b] => a.length ≤ sizeLine ∧ Q (.str (Txt.rstripChars a b)) M
  | _, _ => False
theorem mt_rstrip' : MtR' X "str.rstrip" mRstrip := MtR.weak (MtR.or (id := "str.rstrip") mt_rstrip mt_rstripChars) (by
  rintro x xs H Q ⟨d, ds, M, Q', r, rd, m, h, k⟩
  unfold mRstrip at h
  split at h
  · rename_i a
    unfold RepL at rd
    subst rd
    exact .inl ⟨a, rep_str r, rfl, h.1, k _ _ _ _ h.2 TX.refl m mk_str⟩
  · rename_i a b
    obtain ⟨w, rfl, rw'⟩ := repL1 rd
    rw [rep_str rw']
    exact .inr ⟨a, b, rep_str r, rfl, h.1, k _ _ _ _ h.2 TX.refl m mk_str⟩
  · exact h.elim)
def mUpper : RM' := fun d ds M Q => match d, ds with
  | .str a, [] => a.length ≤ 5592405 ∧ Q (.str (Txt.upper a)) M
  | _, _ => False
theorem mt_upper' : MtR' X "str.upper" mUpper := MtR.weak mt_upper (by
  rintro x xs H Q ⟨d, ds, M, Q', r, rd, m, h, k⟩
  unfold mUpper at h
  split at h
  · rename_i a
    unfold RepL at rd
    subst rd
    exact ⟨a, rep_str r, rfl, h.1, k _ _ _ _ h.2 TX.refl m mk_str⟩
  · exact h.elim)
end
def mtab (x : Str) : Option (String × String × RM') :=
  if x = ("append" : Str) then some ("list", "list.append", mAppend)
  else if x = ("pop" : Str) then some ("list", "list.pop", mPop)
  else if x = ("index" : Str) then some ("list", "list.index", mIndex)
  else if x = ("join" : Str) then some ("str", "str.join", mJoin)
  else if x = ("split" : Str) then some ("str", "str.split", mSplit)
  else if x = ("rstrip" : Str) then some ("str", "str.rstrip", mRstrip)
  else if x = ("upper" : Str) then some ("str", "str.upper", mUpper)
  else none
section
variable {P : Program} {w : World} {K : PySem.W.Frag} {mg : Str → Option Value} {base : Heap} {k : Nat}
theorem CallOk.le {j k : Nat} {x : Str} {r : RC'} (c : CallOk P w K mg base j x r) (h : j ≤ k) : CallOk P w K mg base k x r := fun X a => c X (a.le h)
theorem CallOk0.le {j k : Nat} {x : Str} {r : RC'} (c : CallOk0 P w K mg base j x r) (h : j ≤ k) : CallOk0 P w K mg base k x r := fun X a => c X (a.le h)
def AllC (P : Program) (w : World) (K : PySem.W.Frag) (mg : Str → Option Value) (base : Heap) (k : Nat) (l : List (Str × RC')) : Prop := ∀ p ∈ l, CallOk P w K mg base k p.1 p.2
def AllC0 (P : Program) (w : World) (K : PySem.W.Frag) (mg : Str → Option Value) (base : Heap) (k : Nat) (l : List (Str × RC')) : Prop := ∀ p ∈ l, CallOk0 P w K mg base k p.1 p.2
theorem AllC.nil : AllC P w K mg base k [] := fun _ h => by simp at h
theorem AllC0.nil : AllC0 P w K mg base k [] := fun _ h => by simp at h
theorem AllC.cons {x : Str} {r : RC'} {l : List (Str × RC')} (h : CallOk P w K mg base k x r) (t : AllC P w K mg base k l) : AllC P w K mg base k ((x, r) :: l) := fun p hp => by
  rcases List.mem_cons.mp hp with rfl | hp
  · exact h
  · exact t p hp
theorem AllC.le {j k : Nat} {l : List (Str × RC')} (c : AllC P w K mg base j l) (h : j ≤ k) : AllC P w K mg base k l := fun p hp => (c p hp).le h
theorem AllC0.le {j k : Nat} {l : List (Str × RC')} (c : AllC0 P w K mg base j l) (h : j ≤ k) : AllC0 P w K mg base k l := fun p hp => (c p hp).le h
theorem mtab_ok {x : Str} {T id : String} {r : RM'} (h : mtab x = some (T, id, r)) : PlainAttrs T ∧ Slot T x id ∧ typeOf (.builtin id) = pure (.type "method_descriptor") ∧ ∀ X, At P w K mg base k X → MtR' X id r := by
  unfold mtab at h
  split at h
  · rename_i e; cases h; subst e
    exact ⟨PySem.F.plainAttrs_list, PySem.F.slot_list_append, PySem.F.type_list_append, fun X _ => mt_append'⟩
  split at h
  · rename_i e; cases h; subst e
    exact ⟨PySem.F.plainAttrs_list, PySem.F.slot_list_pop, PySem.F.type_list_pop, fun X _ => mt_pop'⟩
  split at h
  · rename_i e; cases h; subst e
    exact ⟨PySem.F.plainAttrs_list, PySem.F.slot_list_index, PySem.F.type_list_index, fun X a => mt_index' (by have := a.room.un; omega)⟩
  split at h
  · rename_i e; cases h; subst e
    exact ⟨PySem.F.plainAttrs_str, PySem.F.slot_str_join, PySem.F.type_str_join, fun X _ => mt_join'⟩
  split at h
  · rename_i e; cases h; subst e
    exact ⟨PySem.F.plainAttrs_str, PySem.F.slot_str_split, PySem.F.type_str_split, fun X _ => mt_split'⟩
  split at h
  · rename_i e; cases h; subst e
    exact ⟨PySem.F.plainAttrs_str, PySem.F.slot_str_rstrip, PySem.F.type_str_rstrip, fun X _ => mt_rstrip'⟩
  split at h
  · rename_i e; cases h; subst e
    exact ⟨PySem.F.plainAttrs_str, PySem.F.slot_str_upper, PySem.F.type_str_upper, fun X _ => mt_upper'⟩
  cases h
end
end Pw
set_option Elab.async false
set_option linter.all false
set_option maxRecDepth 100000
set_option maxHeartbeats 4000000
/-! str, repr, sets, methods of texts -/
namespace Pw
open PySem PySem.Spec PyProof.Rows L2

def bStr : RC' := on1 fun x M Q => match x with
  | .int i => i.natAbs.log2 < 1920 ∧ Q (.str (toString i)) M
  | .str z => Q (.str z) M
  | _ => False
section
variable {X : Cx}
theorem cr_str' : CallR' X (.type "str") bStr := (call_str_int.or SkE.call_str_str).weak (by
  rintro xs H Q ⟨ds, M, Q', rd, m, h, k⟩
  replace h := on1_of h
  obtain ⟨x, rfl, h⟩ := h
  obtain ⟨v, rfl, r⟩ := repL1 rd
  split at h
  · rename_i i
    rw [rep_int r]
    exact .inl ⟨i, rfl, h.1, k _ _ _ _ h.2 TX.refl m mk_str⟩
  · rename_i z
    rw [rep_str r]
    exact .inr ⟨z, rfl, k _ _ _ _ h TX.refl m mk_str⟩
  · exact h.elim)
/-- what repr takes -/
def reOk (x : D) : Prop := fl x dep = true ∧ (py x).showable = true ∧ (py x).shown.length ≤ sizeLine
def bRepr : RC' := on1 fun x M Q => match x with
  | .ref a => ∃ xs, M a = some (.lst xs) ∧ flL xs dep = true ∧ (PyData.list (pyL xs)).showable = true ∧ (PyData.list (pyL xs)).shown.length ≤ sizeLine ∧ Q (.str (PyData.list (pyL xs)).shown) M
  | x => reOk x ∧ Q (.str (py x).shown) M
theorem repr_dp {pins : List (Addr × Obj)} {s : Shared} {σ : L2.St} {H : Hp} {a : Addr} {d : PyData} {Q : VK} (hg : X.A.guards = some []) (hu : X.A.units + 70 < cLine) (I : Inv X pins σ H s) (h : Dp X.K H (.ref a) d) (sh : SeqAt.shaped d = true) (ss : d.showable = true)
    (hl : d.shown.length ≤ sizeLine) (q : Q (.str d.shown) H) : wpAny (model X.prog X.w) X.A (call (.builtin "repr") [.ref a]) (EP X pins σ Q) X.xe s := by
  obtain ⟨as, r⟩ := Dp.reads I d _ _ h (show RelV (V.ref a) (Value.ref a) from rfl)
  have sh' : (d.canLay0 && decide (d.depth ≤ 64)) = true := sh
  rw [Bool.and_eq_true, decide_eq_true_eq] at sh'
  refine repr_of_reads' r ss (PyData.noDict_hsm (PyData.hasDict_of_canLay d sh'.1)) hg (by omega) (fun _ _ e => e) (fun h' u tk hk => ?_) hl
  exact ⟨.str _, H, I.kept hk, ⟨u, rfl⟩, q⟩
theorem cr_repr' (hg : X.A.guards = some []) (hu : X.A.units + 70 < cLine) : CallR' X (.builtin "repr") bRepr := by
  intro pins s σ H xs us Q I rus h
  obtain ⟨ds, M, Q', rd, m, h, k⟩ := h
  replace h := on1_of h
  obtain ⟨x, rfl, h⟩ := h
  obtain ⟨v, rfl, r⟩ := repL1 rd
  obtain ⟨u, rfl, ru⟩ := vals1 rus
  cases x with
  | ref a =>
    obtain ⟨xs, ma, f, ss, hl, q⟩ := h
    obtain ⟨vs, z, rr⟩ := m a _ ma
    rw [rep_ref r] at ru
    cases ru
    exact repr_dp (Q := Q) hg hu I (.lst (SqL.of z) (repL_dp xs rr f)) (flL_shaped f) ss hl (k _ _ _ _ q TX.refl m mk_str)
  | tup xs =>
    obtain ⟨⟨f, ss, hl⟩, q⟩ := h
    have hd := rep_dp (.tup xs) r f
    obtain ⟨a, vs, rfl, hq, rr⟩ := rep_tup r
    cases ru
    exact repr_dp (Q := Q) hg hu I hd (fl_shaped f) ss hl (k _ _ _ _ q TX.refl m mk_str)
  | int i =>
    obtain ⟨⟨f, ss, hl⟩, q⟩ := h
    rw [rep_int r] at ru
    obtain ⟨t, rfl⟩ := ru
    exact PySem.P.repr_of_int (of_decide_eq_true ss) ⟨.str _, H, I.tok _, ⟨_, rfl⟩, k _ _ _ _ q TX.refl m mk_str⟩
  | bl b =>
    obtain ⟨⟨f, ss, hl⟩, q⟩ := h
    rw [rep_bl r] at ru
    cases ru
    refine PySem.P.repr_of_bool ⟨.str _, H, I.tok _, ⟨_, rfl⟩, k _ _ _ _ q TX.refl m ?_⟩
    cases b <;> exact mk_str
  | non =>
    obtain ⟨⟨f, ss, hl⟩, q⟩ := h
    rw [rep_non r] at ru
    cases ru
    exact PySem.P.repr_of_none ⟨.str _, H, I.tok _, ⟨_, rfl⟩, k _ _ _ _ q TX.refl m mk_str⟩
  | str z =>
    obtain ⟨⟨f, ss, hl⟩, q⟩ := h
    rw [rep_str r] at ru
    obtain ⟨t, rfl⟩ := ru
    exact PySem.P.repr_of_str ⟨.str _, H, I.tok _, ⟨_, rfl⟩, k _ _ _ _ q TX.refl m mk_str⟩ hl
  | ty n => obtain ⟨⟨f, ss, hl⟩, q⟩ := h; cases f
  | rol a n => obtain ⟨⟨f, ss, hl⟩, q⟩ := h; cases f

/-! ### sets, at once used -/
/-- the first of each -/
def uq (ns : List Int) : List Int := firstMet (fun i => ns.getD i 0) ns.length
def lenSetOf (x : D) (M1 : Mp) (Q : Q1) : Prop := match x with
  | .ref a => ∃ ns : List Int, M1 a = some (.lst (ns.map .int)) ∧ ns.length ≤ 4000 ∧ Q (.int (uq ns).length) M1
  | _ => False
def lenSet' (ta : E') : E' := fun ρ M Q => ta ρ M fun x M1 => lenSetOf x M1 Q
def sortedSetOf (x : D) (M1 : Mp) (Q : Q1) : Prop := match x with
  | .tup ds => ∃ ns : List Int, ds = ns.map .int ∧ ns.length < 64 ∧ ∀ (ms : List Int) p, ms.Pairwise (· < ·) → (∀ k, k ∈ ms ↔ k ∈ ns) → ms.length ≤ ns.length → M1 p = none → Q (.ref p) (put M1 p (.lst (ms.map .int)))
  | _ => False
def sortedSet' (ta : E') : E' := fun ρ M Q => ta ρ M fun x M1 => sortedSetOf x M1 Q
variable {a : Expr} {ta : E'} {p p2 q pos : Pos}
theorem pe_lenSet' (hc : X.calm = true) (hg : Gl X "len") (hm : X.mg "len" = none) (hg2 : Gl X "set") (hm2 : X.mg "set" = none) (ha : PE' X a ta) (na : plainE a = true) : PE' X (.Call (.Name "len" p) [.Call (.Name "set" p2) [a] [] q] [] pos) (lenSet' ta) := by
  refine ⟨fun pins s σ H Q I h => ?_⟩
  obtain ⟨ρ, M, Q', hs, hm', h, k⟩ := h
  refine Call_ (ld_blt I hg hm boot_len (PyProof.Rows.callWith_builtin1 (PyProof.Rows.args_cons ?_ rfl) rfl rfl))
  refine Call_ (ld_blt I hg2 hm2 boot_set (PyProof.Rows.callWith_type1 (PyProof.Rows.args_cons (thn (ha.run pins s σ H (fun v H1 => ∃ d M1, lenSetOf d M1 Q' ∧ TX H H1 ∧ Sim X.K H1 M1 ∧ Rep X.K H1 d v) I ⟨ρ, M, _, hs, hm', h, fun d M1 v H1 q tx m1 r => ⟨d, M1, q, tx, m1, r⟩⟩) fun v s1 hh => PyProof.Rows.args_nil ?_) (star1 na)) (star1 na) rfl))
  obtain ⟨v', H1, I1, rv, d, M1, hq, tx, m1, r⟩ := hh
  first | unfold lenSetOf at hq | unfold sortedSetOf at hq
  split at hq
  · rename_i l
    obtain ⟨ns, ml, hl, hq⟩ := hq
    rw [rep_ref r] at rv
    cases rv
    obtain ⟨vs, z, rr⟩ := m1 l _ ml
    rw [rr.ints] at z
    obtain ⟨its, rv, pl, hz⟩ := I1.list (SqL.of z)
    have hlen : its.toArray.size = ns.length := by rw [List.size_toArray, ← rv.length, List.length_map]
    refine call_set_list (I1.ok.hd hc) pl.isList (by simpa using RZ.intsAre_vals rv) (by rw [hlen]; unfold scanBound; omega) fun h' tk hS hk => PyProof.Rows.args_nil ?_
    rw [hlen] at hS
    obtain ⟨o, es, ep, t, ho, hex, hd, _, _, _, hf, hn⟩ := hS
    have I2 : Inv X pins σ H1 { s1 with heap := h', toks := tk } := I1.kept fun b o e => hk b o (Heap.lt_size e) e
    have hle : (uq ns).length ≤ ns.length := firstMet_length_le _ _
    have hn' : es.size = (uq ns).length := hn
    exact call_len_set ho hex hd hf (by rw [hn']; omega) ⟨.int (uq ns).length, H1, I2.tok _, ⟨_, by rw [hn']⟩, k _ _ _ _ hq tx m1 mk_int⟩
  · exact hq.elim
theorem pe_sortedSet' (hc : X.calm = true) (hg : Gl X "sorted") (hm : X.mg "sorted" = none) (hg2 : Gl X "set") (hm2 : X.mg "set" = none) (ha : PE' X a ta) (na : plainE a = true) : PE' X (.Call (.Name "sorted" p) [.Call (.Name "set" p2) [a] [] q] [] pos) (sortedSet' ta) := by
  refine ⟨fun pins s σ H Q I h => ?_⟩
  obtain ⟨ρ, M, Q', hs, hm', h, k⟩ := h
  refine Call_ (ld_blt I hg hm boot_sorted (PyProof.Rows.callWith_builtin1 (PyProof.Rows.args_cons ?_ rfl) rfl rfl))
  refine Call_ (ld_blt I hg2 hm2 boot_set (PyProof.Rows.callWith_type1 (PyProof.Rows.args_cons (thn (ha.run pins s σ H (fun v H1 => ∃ d M1, sortedSetOf d M1 Q' ∧ TX H H1 ∧ Sim X.K H1 M1 ∧ Rep X.K H1 d v) I ⟨ρ, M, _, hs, hm', h, fun d M1 v H1 q tx m1 r => ⟨d, M1, q, tx, m1, r⟩⟩) fun v s1 hh => PyProof.Rows.args_nil ?_) (star1 na)) (star1 na) rfl))
  obtain ⟨v', H1, I1, rv, d, M1, hq, tx, m1, r⟩ := hh
  first | unfold lenSetOf at hq | unfold sortedSetOf at hq
  split at hq
  · rename_i ds
    obtain ⟨ns, rfl, hl, hq⟩ := hq
    obtain ⟨l, vs, rfl, hsq, rr⟩ := rep_tup r
    cases rv
    rw [rr.ints] at hsq
    obtain ⟨its, rv, pl, hz⟩ := I1.tuple hsq
    refine call_set_tupI ns (I1.ok.hd hc) (show s1.heap.IsTuple l its.toArray from pl) (by simpa using RZ.intsAre_vals rv) (by unfold scanBound; omega) fun h' tk c hS hcn hk => PyProof.Rows.args_nil ?_
    have I2 : Inv X pins σ H1 { s1 with heap := h', toks := tk } := I1.kept hk
    refine sorted_set hS (I2.ok.hd hc) (by omega) fun s' p out c2 ms k2 hgen hos hp hgp hia hpw hms hml => ?_
    have hsl : (ms.map V.int).length ≤ sizeLine := by rw [List.length_map, hml, sizeLine_eq]; omega
    have hfree : H1 p = none := I2.hok.fresh hp
    have J : Inv X pins σ (upd H1 p (.lst (ms.map V.int))) { ({ s1 with heap := h', toks := tk } : Shared) with heap := s'.heap, gens := s'.gens, drawn := s'.drawn, toks := s'.toks } :=
      I2.call (ch := []) (Un.laid k2 hp hfree) (I2.hok.laid k2 hp ⟨hsl, out.toList, c2, vals_of_ints hia, hgp⟩) (by rw [hgen]; exact I2.bare) (fun _ z => nomatch z)
    have es : s' = { ({ s1 with heap := h', toks := tk } : Shared) with heap := s'.heap, gens := s'.gens, drawn := s'.drawn, toks := s'.toks } := by
      cases s'; cases s1; cases hos; rfl
    rw [es]
    exact ⟨.ref p, _, J, rfl, k _ _ _ _ (hq ms p hpw (fun z => by rw [hms]; simp) (by omega) (m1.free hfree)) (tx.trans (TX.new hfree)) (new_lst m1 hfree (repL_ints ms)) mk_ref⟩
  · exact hq.elim
end
end Pw
set_option Elab.async false
set_option linter.all false
set_option maxRecDepth 100000
set_option maxHeartbeats 4000000
/-! the table of built-ins; what names mean, in all -/
namespace Pw
open PySem PySem.Spec PyProof.Rows L2

def setArg : List Expr → Bool
  | [.Call (.Name s _) [a] [] _] => decide (s = ("set" : Str)) && plainE a
  | _ => false
def priB (x : Str) (es : List Expr) : Bool := setArg es && (decide (x = ("len" : Str)) || decide (x = ("sorted" : Str)))
def extE (R : Rd) (c : Cn) : Expr → E'
  | .Call (.Name x p) [.Call (.Name s p2) [a] [] q] [] pos => if (glB c.sc x && glB c.sc s && decide (s = ("set" : Str)) && plainE a) = true then
      if x = ("len" : Str) then lenSet' (R.E c a) else if x = ("sorted" : Str) then sortedSet' (R.E c a) else noE else noE
  | _ => noE
def gm (l l0 : List (Str × RC')) (gv : List (Str × D)) : Gm where
  fn := fun x => l.lookup x
  fn0 := fun x => l0.lookup x
  gv := fun x => gv.lookup x
  mt := mtab
  ext := extE
  pri := priB
/-- names of built-ins that the program leaves as they are -/
def bnames : List Str := ["len", "tuple", "list", "sum", "abs", "int", "max", "min", "all", "any", "sorted", "str", "repr", "set", "range", "enumerate", "zip", "reversed"]
def blts : List (Str × RC') := [("len", bLen), ("tuple", bTuple), ("list", bList), ("sum", bSum), ("abs", bAbs), ("int", bInt), ("max", bMax), ("min", bMin), ("all", bAll), ("any", bAny), ("sorted", bSorted), ("str", bStr), ("repr", bRepr)]
section
variable {P : Program} {w : World} {K : PySem.W.Frag} {mg : Str → Option Value} {base : Heap} {k : Nat}
def Free (mg : Str → Option Value) : Prop := ∀ x ∈ bnames, mg x = none
theorem blts_ok (f : Free mg) : AllC P w K mg base k blts := by
  have e : ∀ x : Str, bnames.contains x = true → mg x = none := fun x h => f x (by simpa using h)
  refine .cons (callOk_b (id := "len") (fun X a => cr_len') (e _ (by decide +kernel)) boot_len (by decide) (by decide)) ?_
  refine .cons (callOk_t (id := "tuple") (fun X a => cr_tuple') (e _ (by decide +kernel)) rfl (by decide) (by decide)) ?_
  refine .cons (callOk_t (id := "list") (fun X a => cr_list') (e _ (by decide +kernel)) rfl (by decide) (by decide)) ?_
  refine .cons (callOk_b (id := "sum") (fun X a => cr_sum' a.calm) (e _ (by decide +kernel)) rfl (by decide) (by decide)) ?_
  refine .cons (callOk_b (id := "abs") (fun X a => cr_abs') (e _ (by decide +kernel)) rfl (by decide) (by decide)) ?_
  refine .cons (callOk_t (id := "int") (fun X a => cr_int') (e _ (by decide +kernel)) rfl (by decide) (by decide)) ?_
  refine .cons (callOk_b (id := "max") (fun X a => cr_max' a.calm) (e _ (by decide +kernel)) rfl (by decide) (by decide)) ?_
  refine .cons (callOk_b (id := "min") (fun X a => cr_min' a.calm) (e _ (by decide +kernel)) rfl (by decide) (by decide)) ?_
  refine .cons (callOk_b (id := "all") (fun X a => cr_all' a.calm) (e _ (by decide +kernel)) rfl (by decide) (by decide)) ?_
  refine .cons (callOk_b (id := "any") (fun X a => cr_any' a.calm) (e _ (by decide +kernel)) rfl (by decide) (by decide)) ?_
  refine .cons (callOk_b (id := "sorted") (fun X a => cr_sorted') (e _ (by decide +kernel)) rfl (by decide) (by decide)) ?_
  refine .cons (callOk_t (id := "str") (fun X a => cr_str') (e _ (by decide +kernel)) rfl (by decide) (by decide)) ?_
  refine .cons (callOk_b (id := "repr") (fun X a => cr_repr' a.grd (by have := a.room.un; omega)) (e _ (by decide +kernel)) rfl (by decide) (by decide)) ?_
  exact .nil
theorem mem_of_look {α : Type} {l : List (Str × α)} {x : Str} {r : α} (h : l.lookup x = some r) : (x, r) ∈ l := PySem.mem_of_lookup h
def AllG (P : Program) (w : World) (K : PySem.W.Frag) (mg : Str → Option Value) (base : Heap) (k : Nat) (l : List (Str × D)) : Prop := ∀ p ∈ l, ∀ X, At P w K mg base k X → Gl X p.1 → ∀ pos, PE' X (.Name p.1 pos) (con' p.2)
theorem gm_ok (f : Free mg) {l l0 : List (Str × RC')} {gv : List (Str × D)} (a : AllC P w K mg base k l) (b : AllC0 P w K mg base k l0) (c : AllG P w K mg base k gv) : (gm l l0 gv).Ok P w K mg base k := by
  have e : ∀ x : Str, bnames.contains x = true → mg x = none := fun x h => f x (by simpa using h)
  refine ⟨fun x r h => a _ (mem_of_look h), fun x r h => b _ (mem_of_look h), fun x d h => c _ (mem_of_look h), fun x T id r h => mtab_ok h, fun R hR c X ex F => ?_, fun R hR c X tg ex F => pi_no, fun R hR c X B st F po hB => ps_no, fun R hR c X ex F => ?_, e _ (by decide +kernel), e _ (by decide +kernel), e _ (by decide +kernel), e _ (by decide +kernel)⟩
  · show PE' X ex (extE R c ex)
    unfold extE
    split
    · rename_i x p s p2 a q pos
      split
      · rename_i hb
        simp only [Bool.and_eq_true, decide_eq_true_eq] at hb
        obtain ⟨⟨⟨h1, h2⟩, h3⟩, h4⟩ := hb
        subst h3
        have g2 := F.gl h2
        have m2 : X.mg "set" = none := by rw [F.at_.m]; exact e _ (by decide +kernel)
        split
        · rename_i hx
          subst hx
          exact pe_lenSet' F.at_.calm (F.gl h1) (by rw [F.at_.m]; exact e _ (by decide +kernel)) g2 m2 (hR.E c X _ F) h4
        · split
          · rename_i _ hx
            subst hx
            exact pe_sortedSet' F.at_.calm (F.gl h1) (by rw [F.at_.m]; exact e _ (by decide +kernel)) g2 m2 (hR.E c X _ F) h4
          · exact pe_no
      · exact pe_no
    · exact pe_no
  · exact ⟨fun _ _ _ _ _ _ _ _ _ h => by obtain ⟨_, _, _, _, _, _, _, z, _⟩ := h; exact z.elim⟩
end
end Pw
set_option Elab.async false
set_option linter.all false
set_option maxRecDepth 100000
set_option maxHeartbeats 4000000
/-! tools for the plain side -/
namespace Pw
open PySem PySem.Spec PyProof.Rows L2

/-! ### rules as equations -/
section
variable {M : Mp} {Q : Q1} {i j : Int} {n : Nat} {a b c d e f : D} {l xs ys : List D} {x y : Str} {p q : Bool}
theorem x_ix0 : rIx' (.tup (a :: l)) (.int 0) M Q = Q a M := by
  simp [rIx', atI, ixN]
theorem x_ix1 : rIx' (.tup (a :: b :: l)) (.int 1) M Q = Q b M := by
  have : (1 : Int) < (l.length : Int) + 1 + 1 := by omega
  simp [rIx', atI, ixN, this]
theorem x_ix2 : rIx' (.tup (a :: b :: c :: l)) (.int 2) M Q = Q c M := by
  have : (2 : Int) < (l.length : Int) + 1 + 1 + 1 := by omega
  simp [rIx', atI, ixN, this]
theorem x_ix3 : rIx' (.tup (a :: b :: c :: d :: l)) (.int 3) M Q = Q d M := by
  have : (3 : Int) < (l.length : Int) + 1 + 1 + 1 + 1 := by omega
  simp [rIx', atI, ixN, this]
theorem atI_nat {α : Type} {zs : List α} {n : Nat} : atI zs (n : Int) = zs[n]? := by
  unfold atI ixN
  rw [if_pos (by omega)]
  by_cases h : n < zs.length
  · rw [if_pos (by omega)]; simp
  · rw [if_neg (by omega)]; simp at h; simp [h]
theorem atI_neg {α : Type} {zs : List α} {n : Nat} (h0 : 0 < n) (h : n ≤ zs.length) : atI zs (-(n : Int)) = zs[zs.length - n]? := by
  unfold atI ixN
  rw [if_neg (by omega), if_pos (by omega)]
  show zs[(-(n : Int) + zs.length).toNat]? = _
  congr 1; omega
theorem x_ixR {r : Addr} {ns : List Int} : rIx' (.rol r ns) (.int i) M Q = ∃ d : Int, atI ns i = some d ∧ Q (.int d) M := rfl
theorem x_ixt : rIx' (.tup xs) (.int (n : Nat)) M Q = ∃ d, xs[n]? = some d ∧ Q d M := by simp [rIx', atI_nat]
theorem x_ixl {r : Addr} : rIx' (.ref r) (.int i) M Q = ∃ xs d, M r = some (.lst xs) ∧ atI xs i = some d ∧ Q d M := rfl
theorem x_ixL {r : Addr} (h : M r = some (.lst xs)) (e : atI xs i = some d) (q : Q d M) : rIx' (.ref r) (.int i) M Q := ⟨xs, d, h, e, q⟩
theorem x_ixLn {r : Addr} (h : M r = some (.lst xs)) (e : xs[n]? = some d) (q : Q d M) : rIx' (.ref r) (.int (n : Nat)) M Q := ⟨xs, d, h, by rw [atI_nat]; exact e, q⟩
theorem x_addI : rAdd' (.int i) (.int j) M Q = Q (.int (i + j)) M := rfl
theorem x_addS : rAdd' (.str x) (.str y) M Q = (x.length + y.length ≤ sizeLine ∧ Q (.str (x ++ y)) M) := rfl
theorem x_addT : rAdd' (.tup xs) (.tup ys) M Q = (xs.length + ys.length ≤ sizeLine ∧ Q (.tup (xs ++ ys)) M) := rfl
theorem x_sub : rSub' (.int i) (.int j) M Q = Q (.int (i - j)) M := by simp [rSub', rInt]
theorem x_div : rDiv' (.int i) (.int j) M Q = (CDiv i j ∧ Q (.int (i / j)) M) := rfl
theorem x_mod : rMod' (.int i) (.int j) M Q = (0 < j ∧ Q (.int (i % j)) M) := rfl
theorem x_pow : rPow' (.int i) (.int j) M Q = (CPow i j ∧ Q (.int (i ^ j.toNat)) M) := rfl
theorem x_mul : rMul' (.int i) (.int j) M Q = (CMul i j ∧ Q (.int (i * j)) M) := rfl
theorem x_lt : rLt' (.int i) (.int j) M Q = Q (.bl (decide (i < j))) M := by simp [rLt', rInt]
theorem x_le : rLe' (.int i) (.int j) M Q = Q (.bl (decide (i ≤ j))) M := by simp [rLe', rInt]
theorem x_gt : rGt' (.int i) (.int j) M Q = Q (.bl (decide (j < i))) M := by simp [rGt', rInt]
theorem x_ge : rGe' (.int i) (.int j) M Q = Q (.bl (decide (j ≤ i))) M := by simp [rGe', rInt]
theorem x_eqI : rEq' false (.int i) (.int j) M Q = Q (.bl (decide (i = j))) M := by
  have : (i == j) = decide (i = j) := rfl
  simp [rEq', sca, eqD, this]
theorem x_neI : rEq' true (.int i) (.int j) M Q = Q (.bl (!decide (i = j))) M := by
  have : (i == j) = decide (i = j) := rfl
  simp [rEq', sca, eqD, this]
theorem x_eqS : rEq' false (.str x) (.str y) M Q = Q (.bl (decide (x = y))) M := by
  have : (x == y) = decide (x = y) := rfl
  simp [rEq', sca, eqD, this]
theorem x_neS : rEq' true (.str x) (.str y) M Q = Q (.bl (!decide (x = y))) M := by
  have : (x == y) = decide (x = y) := rfl
  simp [rEq', sca, eqD, this]
theorem x_isN : rIs' false a .non M Q = Q (.bl (isN a)) M := by simp [rIs']
theorem x_notN : rIs' true a .non M Q = Q (.bl (!isN a)) M := by simp [rIs']
theorem x_isB : rIs' false (.bl p) (.bl q) M Q = Q (.bl (p == q)) M := by simp [rIs']
theorem x_notB : rIs' true (.bl p) (.bl q) M Q = Q (.bl (!(p == q))) M := by simp [rIs']
theorem x_b2 {r : R2'} {ta tb : E'} {ρ : Rho} : b2' r ta tb ρ M Q = ta ρ M fun x M1 => tb ρ M1 fun y M2 => r x y M2 Q := rfl
theorem x_con {ρ : Rho} : con' d ρ M Q = Q d M := rfl
theorem x_var0 {ρ : Rho} : var' 0 (some d :: ρ) M Q = Q d M := rfl
theorem x_varS {ρ : Rho} {o : Option D} : var' (n + 1) (o :: ρ) M Q = var' n ρ M Q := rfl
theorem x_call {r : RC'} {t : A'} {ρ : Rho} : call' r t ρ M Q = t ρ M fun ds M1 => r ds M1 Q := rfl
theorem x_nil {ρ : Rho} {Q : List D → Mp → Prop} : nil' ρ M Q = Q [] M := rfl
theorem x_cons {ta : E'} {tr : A'} {ρ : Rho} {Q : List D → Mp → Prop} : cons' ta tr ρ M Q = ta ρ M fun x M1 => tr ρ M1 fun xs M2 => Q (x :: xs) M2 := rfl
theorem x_tup {t : A'} {ρ : Rho} : tup' t ρ M Q = t ρ M fun ds M1 => ds.length ≤ sizeLine ∧ Q (.tup ds) M1 := rfl
theorem x_lst {t : A'} {ρ : Rho} : lst' t ρ M Q = t ρ M fun ds M1 => ds.length ≤ sizeLine ∧ ∀ p, M1 p = none → Q (.ref p) (put M1 p (.lst ds)) := rfl
theorem x_tt {t : E'} {ρ : Rho} {Q : Bool → Mp → Prop} : tt' t ρ M Q = t ρ M fun d M1 => ∃ k, truD M1 d = some k ∧ Q k M1 := rfl
theorem x_truB : truD M (.bl p) = some p := rfl
theorem x_truI : truD M (.int i) = some (i != 0) := rfl
theorem x_truN : truD M .non = some false := rfl
theorem x_truT : truD M (.tup xs) = some (!xs.isEmpty) := rfl
theorem x_nt {t : T'} {ρ : Rho} {Q : Bool → Mp → Prop} : nt' t ρ M Q = t ρ M fun b M1 => Q (!b) M1 := rfl
theorem x_an {t u : T'} {ρ : Rho} {Q : Bool → Mp → Prop} : an' t u ρ M Q = t ρ M fun b M1 => if b = true then u ρ M1 Q else Q false M1 := rfl
theorem x_ro {t u : T'} {ρ : Rho} {Q : Bool → Mp → Prop} : ro' t u ρ M Q = t ρ M fun b M1 => if b = true then Q true M1 else u ρ M1 Q := rfl
theorem x_neg {t : E'} {ρ : Rho} {Q : Q1} : neg' t ρ M Q = t ρ M fun d M1 => match d with | .int i => Q (.int (-i)) M1 | _ => False := rfl
theorem x_not {t : E'} {ρ : Rho} {Q : Q1} : not' t ρ M Q = t ρ M fun d M1 => ∃ k, truD M1 d = some k ∧ Q (.bl (!k)) M1 := rfl
theorem x_ite {t : T'} {ta tb : E'} {ρ : Rho} : ite' t ta tb ρ M Q = t ρ M fun b M1 => if b = true then ta ρ M1 Q else tb ρ M1 Q := rfl
theorem x_and {ta tb : E'} {ρ : Rho} : and' ta tb ρ M Q = ta ρ M fun d M1 => ∃ k, truD M1 d = some k ∧ if k = true then tb ρ M1 Q else Q d M1 := rfl
theorem x_or {ta tb : E'} {ρ : Rho} : or' ta tb ρ M Q = ta ρ M fun d M1 => ∃ k, truD M1 d = some k ∧ if k = true then Q d M1 else tb ρ M1 Q := rfl
theorem x_chain {r r' : R2'} {ta tb tc : E'} {ρ : Rho} : chain' r r' ta tb tc ρ M Q = ta ρ M fun x M1 => tb ρ M1 fun y M2 => r x y M2 fun z M3 => ∃ k, z = .bl k ∧ if k = true then tc ρ M3 fun w M4 => r' y w M4 Q else Q (.bl false) M3 := rfl
theorem x_asg {te : E'} {g : G'} {Z : Ends'} {ρ : Rho} : asg' te g Z ρ M = te ρ M fun d M1 => g d ρ M1 Z.nx := rfl
theorem x_gName {ρ : Rho} {Q : Rho → Mp → Prop} : gName' n d ρ M Q = Q (ρ.set n (some d)) M := rfl
theorem x_seq {t u : S'} {Z : Ends'} {ρ : Rho} : seq' t u Z ρ M = t { Z with nx := Fg (u Z) } ρ M := rfl
theorem x_next {Z : Ends'} {ρ : Rho} : next' Z ρ M = Z.nx ρ M := rfl
theorem x_if {t : T'} {s u : S'} {Z : Ends'} {ρ : Rho} : if' t s u Z ρ M = t ρ M fun b M1 => if b = true then s Z ρ M1 else u Z ρ M1 := rfl
theorem x_for {wi : I'} {g : G'} {tb : S'} {Z : Ends'} {ρ : Rho} : for' wi g tb Z ρ M = wi ρ M fun ds y M1 => wFor y g tb Z ds ρ M1 := rfl
theorem x_iVal {ta : E'} {ρ : Rho} {R : List D → Stay → Mp → Prop} : iVal' ta ρ M R = ta ρ M fun d M1 => itemsOf d M1 R := rfl
theorem x_itT {R : List D → Stay → Mp → Prop} : itemsOf (.tup xs) M R = R xs [] M := rfl
theorem x_iEnum {ta : E'} {ρ : Rho} {R : List D → Stay → Mp → Prop} : iEnum' ta ρ M R = ta ρ M fun d M1 => enumOf d M1 R := rfl
theorem x_enT {R : List D → Stay → Mp → Prop} : enumOf (.tup xs) M R = R (enumD xs) [] M := rfl
theorem x_iZip {t : A'} {ρ : Rho} {R : List D → Stay → Mp → Prop} : iZip' t ρ M R = t ρ M fun d M1 => zipOf d M1 R := rfl
theorem x_zipT {R : List D → Stay → Mp → Prop} : zipOf [.tup xs, .tup ys] M R = R (zipD xs ys) [] M := rfl
theorem x_iRev {ta : E'} {ρ : Rho} {R : List D → Stay → Mp → Prop} : iRev' ta ρ M R = ta ρ M fun d M1 => revOf d M1 R := rfl
theorem x_rvT {R : List D → Stay → Mp → Prop} : revOf (.tup xs) M R = R xs.reverse [] M := rfl
theorem x_rng1 {t : A'} {ρ : Rho} {R : List D → Stay → Mp → Prop} : iRng1' t ρ M R = t ρ M fun ds M1 => match ds with
  | [.int j] => small62 j ∧ R ((List.range j.toNat).map fun (k : Nat) => D.int (0 + (k : Int))) [] M1
  | _ => False := rfl
theorem x_rng2 {t : A'} {ρ : Rho} {R : List D → Stay → Mp → Prop} : iRng2' t ρ M R = t ρ M fun ds M1 => match ds with
  | [.int i, .int j] => small62 i ∧ small62 j ∧ R ((List.range (j - i).toNat).map fun (k : Nat) => D.int (i + (k : Int))) [] M1
  | _ => False := rfl
theorem x_rng3 {t : A'} {ρ : Rho} {R : List D → Stay → Mp → Prop} : iRng3' t ρ M R = t ρ M fun ds M1 => match ds with
  | [.int i, .int j, .int c] => c = -1 ∧ small62 i ∧ small62 j ∧ R ((List.range (i - j).toNat).map fun (k : Nat) => D.int (i + (k : Int) * (-1))) [] M1
  | _ => False := rfl
theorem x_comp {wi : I'} {ct : CT} {own : List Nat} {c : T'} {te : E'} {ρ : Rho} : comp' wi ct own c te ρ M Q = wi ρ M fun ds y M1 => ∀ p, M1 p = none → wComp y ct own c te p ρ Q ds [] (put M1 p (.lst [])) := rfl
theorem x_slc {ta : E'} {tl th : O'} {ρ : Rho} : slc' ta tl th ρ M Q = ta ρ M fun d M1 => tl ρ M1 fun l M2 => th ρ M2 fun u M3 => rSl' d l u M3 Q := rfl
theorem x_noP {ρ : Rho} {R : Option Int → Mp → Prop} : noPart' ρ M R = R none M := rfl
theorem x_part {t : E'} {ρ : Rho} {R : Option Int → Mp → Prop} : part' t ρ M R = t ρ M fun d M1 => ∃ i, d = .int i ∧ R (some i) M1 := rfl
theorem x_meth {T : String} {r : RM'} {to : E'} {t : A'} {ρ : Rho} : meth' T r to t ρ M Q = to ρ M fun d M1 => tyD T M1 d ∧ t ρ M1 fun ds M2 => r d ds M2 Q := rfl
theorem x_gTup {m : Nat} {gs : Gs'} {ρ : Rho} {R : Rho → Mp → Prop} : gTup' m gs (.tup xs) ρ M R = (xs.length = m ∧ gs xs ρ M R) := rfl
theorem x_gCons {g : G'} {gs : Gs'} {ρ : Rho} {R : Rho → Mp → Prop} : gCons' g gs (a :: l) ρ M R = g a ρ M fun ρ1 M1 => gs l ρ1 M1 R := rfl
theorem x_gNil {ρ : Rho} {R : Rho → Mp → Prop} : gNil' [] ρ M R = R ρ M := by simp [gNil']
theorem x_gSub {to ti : E'} {ρ : Rho} {R : Rho → Mp → Prop} : gSub' to ti d ρ M R = to ρ M fun o M1 => ti ρ M1 fun i M2 => setR o i d M2 fun M3 => R ρ M3 := rfl
theorem x_bTupleT : bTuple [.tup xs] M Q = Q (.tup xs) M := rfl
theorem x_bTupleL {r : Addr} : bTuple [.ref r] M Q = ∃ xs, M r = some (.lst xs) ∧ Q (.tup xs) M := rfl
theorem x_bLenT : bLen [.tup xs] M Q = Q (.int xs.length) M := rfl
theorem x_bLenL {r : Addr} : bLen [.ref r] M Q = ∃ xs, M r = some (.lst xs) ∧ Q (.int xs.length) M := rfl
theorem x_bLenR {r : Addr} {ns : List Int} : bLen [.rol r ns] M Q = Q (.int ns.length) M := rfl
theorem x_bAbs : bAbs [.int i] M Q = Q (.int (if i < 0 then -i else i)) M := rfl
theorem x_bInt : bInt [.int i] M Q = Q (.int i) M := rfl
theorem x_bIntB : bInt [.bl p] M Q = Q (.int (if p then 1 else 0)) M := rfl
end
theorem Up.le {Q : Q1} {d : D} {M0 M : Mp} (l : M0.le M) (h : Q d M0) : Up Q d M := ⟨M0, l, h⟩
/-- a turn of a for, on the rest -/
theorem wFor_ind {y : Stay} {g : G'} {tb : S'} {Z : Ends'} (I : List D → Rho → Mp → Prop)
    (turn : ∀ x xs ρ M (R : Rho → Mp → Prop), I (x :: xs) ρ M → (∀ ρ' M', I xs ρ' M' → R ρ' M') → StayM M y ∧ g x ρ M fun ρ1 M1 => tb { Z with nx := R, ct := R, bk := Z.nx } ρ1 M1)
    (fin : ∀ ρ M, I [] ρ M → StayM M y ∧ Z.nx ρ M) : ∀ ds ρ M, I ds ρ M → wFor y g tb Z ds ρ M
  | [], ρ, M, h => fin ρ M h
  | x :: xs, ρ, M, h => turn x xs ρ M _ h fun ρ' M' h' => wFor_ind I turn fin xs ρ' M' h'
theorem stay_put {M : Mp} {p : Addr} {o : MO} (n : M p = none) : ∀ {y : Stay}, StayM M y → StayM (put M p o) y
  | [], _ => trivial
  | (a, ds) :: y, h => ⟨put_new h.1 n, stay_put n h.2⟩
/-- t gives x, nothing known is lost -/
def Gv (t : E') (ρ : Rho) (M : Mp) (x : D) : Prop := ∀ Q : Q1, (∀ M', M.le M' → Q x M') → t ρ M Q
def Gb (t : T') (ρ : Rho) (M : Mp) (b : Bool) : Prop := ∀ Q : Bool → Mp → Prop, (∀ M', M.le M' → Q b M') → t ρ M Q
theorem gb_yes {ρ : Rho} {M : Mp} : Gb yes' ρ M true := fun Q h => h M Mp.le.refl
theorem comp_map {α : Type} {y : Stay} {ct : CT} {own : List Nat} {c : T'} {te : E'} {p : Addr} {ρ : Rho} {Q : Q1} {M : Mp} (e : α → D) (f : α → D) (g : α → Bool) (n : M p = none) (st : StayM M y) :
    ∀ (xs : List α) (acc : List D), acc.length + xs.length ≤ sizeLine →
      (∀ x ∈ xs, ∃ ρ1, ct.set (e x) (wipeD ρ own) = some ρ1 ∧ ∀ M1, M.le M1 → Gb c ρ1 M1 (g x) ∧ (g x = true → Gv te ρ1 M1 (f x))) →
      Q (.ref p) (put M p (.lst (acc ++ (xs.filter g).map f))) → wComp y ct own c te p ρ Q (xs.map e) acc (put M p (.lst acc))
  | [], acc, _, _, q => ⟨stay_put n st, by simpa using q⟩
  | x :: xs, acc, hl, hx, q => by
    rw [List.map_cons]
    unfold wComp
    refine ⟨stay_put n st, ?_⟩
    obtain ⟨ρ1, e1, h⟩ := hx x (by simp)
    rw [e1]
    have le0 : M.le (put M p (.lst acc)) := Mp.le.new n
    refine (h _ le0).1 _ fun M' hle => ?_
    have hx' := fun z hz => hx z (List.mem_cons_of_mem _ hz)
    simp only [List.length_cons] at hl
    cases hg : g x with
    | true =>
      rw [if_pos rfl]
      have hsz : acc.length < sizeLine := by omega
      refine (h M' (le0.trans hle)).2 hg _ fun M2 hle2 => ⟨put M p (.lst acc), hle.trans hle2, put_same, hsz, ?_⟩
      rw [put_put]
      refine comp_map e f g n st xs _ (by simp; omega) hx' ?_
      simpa [hg] using q
    | false =>
      rw [if_neg Bool.false_ne_true]
      refine ⟨_, hle, comp_map e f g n st xs acc (by omega) hx' ?_⟩
      simpa [hg] using q
/-- without tests -/
theorem comp_all {α : Type} {y : Stay} {ct : CT} {own : List Nat} {te : E'} {p : Addr} {ρ : Rho} {Q : Q1} {M : Mp} {xs : List α} (e : α → D) (f : α → D) (n : M p = none) (st : StayM M y) (hl : xs.length ≤ sizeLine)
    (hx : ∀ x ∈ xs, ∃ ρ1, ct.set (e x) (wipeD ρ own) = some ρ1 ∧ ∀ M1, M.le M1 → Gv te ρ1 M1 (f x)) (q : Q (.ref p) (put M p (.lst (xs.map f)))) : wComp y ct own yes' te p ρ Q (xs.map e) [] (put M p (.lst [])) :=
  comp_map e f (fun _ => true) n st xs [] (by simpa using hl) (fun x hx' => let ⟨ρ1, e, h⟩ := hx x hx'; ⟨ρ1, e, fun M1 l => ⟨gb_yes, fun _ => h M1 l⟩⟩)
    (by rw [List.filter_eq_self.mpr (fun _ _ => rfl)]; simpa using q)
theorem getD_of {α : Type} {xs : List α} {i : Nat} {d : α} (h : i < xs.length) : xs[i]? = some (xs.getD i d) := by
  rw [List.getD_eq_getElem?_getD, List.getElem?_eq_getElem h]; rfl
/-- a tuple of ints -/
def dI (hs : List Int) : D := .tup (hs.map .int)
theorem x_ixI {hs : List Int} {n : Nat} {M : Mp} {Q : Q1} : rIx' (dI hs) (.int (n : Nat)) M Q = (n < hs.length ∧ Q (.int (hs.getD n 0)) M) := by
  unfold dI
  rw [x_ixt]
  apply propext
  constructor
  · rintro ⟨d, e, q⟩
    rw [List.getElem?_map] at e
    cases h : hs[n]? with
    | none => rw [h] at e; cases e
    | some z =>
      rw [h] at e; cases e
      have hn := (List.getElem?_eq_some_iff.mp h).1
      refine ⟨hn, ?_⟩
      rw [List.getD_eq_getElem?_getD, h]; exact q
  · rintro ⟨hn, q⟩
    exact ⟨_, by rw [List.getElem?_map, getD_of hn]; rfl, q⟩
theorem x_wipe0 {ρ : Rho} : wipeD ρ [] = ρ := rfl
theorem x_wipeS {ρ : Rho} {v : Nat} {vs : List Nat} : wipeD ρ (v :: vs) = (wipeD ρ vs).set v none := rfl
theorem sl0 : (0 ≤ sizeLine) = True := by simp
theorem sl1 : (1 ≤ sizeLine) = True := eq_true (by decide)
theorem sl2 : (2 ≤ sizeLine) = True := eq_true (by decide)
theorem sl3 : (3 ≤ sizeLine) = True := eq_true (by decide)
theorem sl4 : (4 ≤ sizeLine) = True := eq_true (by decide)
theorem sl5 : (5 ≤ sizeLine) = True := eq_true (by decide)
theorem sl6 : (6 ≤ sizeLine) = True := eq_true (by decide)
theorem sz {n : Nat} (h : n ≤ 100000) : n ≤ sizeLine := Nat.le_trans h (by decide)
end Pw
set_option Elab.async false
set_option linter.all false
set_option maxRecDepth 100000
set_option maxHeartbeats 1000000
/-! the laws' common beginning: digits, draws -/
namespace Pw
open PySem PySem.Spec PyProof.Rows L2
local macro_rules | `(tactic| walk_at "px") => `(tactic| simp only [x_ix0, x_wipe0, x_wipeS, x_ix1, x_ix2, x_ix3, x_ixt, x_ixR, x_ixl, x_addI, x_addS, x_addT, x_sub, x_div, x_mod, x_pow, x_mul, x_lt, x_le, x_gt, x_ge, x_eqI, x_neI, x_eqS, x_neS, x_isN, x_notN, x_isB, x_notB, x_b2, x_con, x_var0, x_varS, x_call, x_nil, x_cons, x_tup, x_lst, x_tt, x_truB, x_truI, x_truN, x_truT, x_nt, x_an, x_ro, x_neg, x_not, x_ite, x_and, x_or, x_chain, x_asg, x_gName, x_seq, x_next, x_if, x_for, x_iVal, x_itT, x_iEnum, x_enT, x_iZip, x_zipT, x_iRev, x_rvT, x_rng1, x_rng2, x_rng3, x_comp, x_slc, x_noP, x_part, x_meth, x_gTup, x_gCons, x_gNil, x_gSub, x_bTupleT, x_bTupleL, x_bLenT, x_bLenL, x_bLenR, x_bAbs, x_bInt, x_bIntB, x_ixI, runR, startD, List.map_cons, List.map_nil, List.length_cons, List.length_nil, Nat.reduceAdd, Nat.reduceSub, List.replicate_succ, List.replicate_zero, List.cons_append, List.nil_append, List.set_cons_zero, List.set_cons_succ, Option.some.injEq, exists_eq_left', sl0, sl1, sl2, sl3, sl4, sl5, sl6, true_and, and_true, List.append_nil, Bool.false_eq_true, if_true, if_false, ite_true, ite_false, reduceIte, decide_eq_true_eq, Bool.not_eq_true', decide_eq_false_iff_not, Bool.not_true, Bool.not_false, gt_iff_lt, ge_iff_le, Int.reduceAdd, Int.reduceSub, Int.reduceMul, Int.reduceNeg])

def sp_law_cell : RC' := fun ds M Q => ∃ a ns, ∃ k : Nat, ds = [.rol a ns, .int k] ∧ Q (.int (ns.getD k 0)) M
def Dig (z : Int) : Prop := 0 ≤ z ∧ z < 1000
def sp_law_digits : RC' := fun ds M Q => ∃ a ns, ∃ n : Nat, ds = [.rol a ns, .int 0, .int n] ∧ n ≤ 63 ∧ ∀ (zs : List Int) p, (∀ z ∈ zs, Dig z) → zs.length ≤ 4000 → M p = none → Q (.ref p) (put M p (.lst (zs.map .int)))
/-- a box at b, its digits at a -/
def bx (a : Addr) (i : Nat) : MO := .lst [.ref a, .int i]
def Box (M : Mp) (b a : Addr) (zs : List Int) : Prop := a ≠ b ∧ (∃ i : Nat, M b = some (bx a i)) ∧ M a = some (.lst (zs.map .int)) ∧ ∀ z ∈ zs, Dig z
theorem Box.go {M : Mp} {b a : Addr} {zs : List Int} (h : Box M b a zs) (i : Nat) : Box (put M b (bx a i)) b a zs := ⟨h.1, ⟨i, put_same⟩, by rw [put_ne h.1]; exact h.2.2.1, h.2.2.2⟩
theorem Box.le {M M' : Mp} {b a : Addr} {zs : List Int} (h : Box M b a zs) (l : M.le M') : Box M' b a zs := ⟨h.1, h.2.1.imp fun i e => l _ _ e, l _ _ h.2.2.1, h.2.2.2⟩
theorem Box.ne {M : Mp} {b a p : Addr} {zs : List Int} (h : Box M b a zs) (n : M p = none) : p ≠ b ∧ p ≠ a := by
  obtain ⟨_, ⟨i, e⟩, f, _⟩ := h
  refine ⟨fun h => ?_, fun h => ?_⟩
  · rw [← h, n] at e; cases e
  · rw [← h, n] at f; cases f
def sp_law_draw : RC' := fun ds M Q => ∃ b a zs, ∃ m : Nat, ds = [.ref b, .int m] ∧ 0 < m ∧ Box M b a zs ∧ ∀ j i : Nat, j < m → Q (.int j) (put M b (bx a i))
def sp_law_pick : RC' := fun ds M Q => ∃ b a zs x xs, ds = [.ref b, x] ∧ (x = .tup xs ∨ ∃ l, x = .ref l ∧ l ≠ b ∧ M l = some (.lst xs)) ∧ xs ≠ [] ∧ Box M b a zs ∧ ∀ d, ∀ i : Nat, d ∈ xs → Q d (put M b (bx a i))
/-- repr gives z -/
def ShowAs (M : Mp) (x : D) (z : Str) : Prop := match x with
  | .ref a => ∃ xs, M a = some (.lst xs) ∧ flL xs dep = true ∧ (PyData.list (pyL xs)).showable = true ∧ (PyData.list (pyL xs)).shown.length ≤ sizeLine ∧ z = (PyData.list (pyL xs)).shown
  | x => reOk x ∧ z = (py x).shown
theorem x_repr {M : Mp} {x : D} {z : Str} {Q : Q1} (h : ShowAs M x z) (q : Q (.str z) M) : bRepr [x] M Q := by
  cases x with
  | ref a => obtain ⟨xs, h1, h2, h3, h4, rfl⟩ := h; exact ⟨xs, h1, h2, h3, h4, q⟩
  | _ => obtain ⟨h, rfl⟩ := h; exact ⟨h, q⟩
def sp_law_same : RC' := fun ds M Q => ∃ x y z, ds = [x, y] ∧ ShowAs M x z ∧ ShowAs M y z ∧ Q (.bl true) M
/-- _law_cell: 0 _law_script, 1 _law_k -/
def n_law_cell : List Str := ["_law_script", "_law_k"]
def r_law_cell : S' :=
  (seq'
   (if' (tt' (b2' rLt' (var' 1) (call' bLen (cons' (var' 0) nil'))))
     (seq'
      (fun Z ρ M => (b2' rIx' (var' 0) (var' 1)) ρ M Z.rt) next')
     next')
  (seq'
   (fun Z ρ M => (con' (.int 0)) ρ M Z.rt) next'))
/-- _law_digits: 0 _law_script, 1 _law_first, 2 _law_last, 3 _law_digits_here, 4 _law_k, 5 _law_cell_here, 6 _law_turn, 7 _law_seed -/
def n_law_digits : List Str := ["_law_script", "_law_first", "_law_last", "_law_digits_here", "_law_k", "_law_cell_here", "_law_turn", "_law_seed"]
def r_law_digits : S' :=
  (seq'
   (asg' (lst' nil') (gName' 3))
  (seq'
   (for' (iRng2' (cons' (var' 1) (cons' (var' 2) nil'))) (gName' 4)
     (seq'
      (asg' (call' sp_law_cell (cons' (var' 0) (cons' (var' 4) nil'))) (gName' 5))
     (seq'
      (if' (tt' (b2' rLt' (var' 5) (con' (.int 0))))
        (seq'
         (asg' (b2' rSub' (con' (.int 1)) (b2' rMul' (con' (.int 2)) (var' 5))) (gName' 5)) next')
        next')
     (seq'
      (if' (tt' (b2' rGe' (var' 5) (b2' rPow' (con' (.int 10)) (con' (.int 18)))))
        (seq'
         (for' (iRng1' (cons' (con' (.int 60)) nil')) (gName' 6)
           (seq'
            (if' (tt' (b2' rGt' (var' 5) (con' (.int 0))))
              (seq'
               (fun Z ρ M => (meth' "list" mAppend (var' 3) (cons' (b2' rMod' (call' bInt (cons' (var' 5) nil')) (con' (.int 1000))) nil')) ρ M fun _ M1 => Z.nx ρ M1)
              (seq'
               (asg' (b2' rDiv' (var' 5) (con' (.int 1000))) (gName' 5)) next'))
              next') next')) next')
        (seq'
         (asg' (b2' rMod' (call' bInt (cons' (b2' rAdd' (b2' rAdd' (b2' rMul' (var' 5) (con' (.int 48271))) (b2' rMul' (var' 4) (con' (.int 69621)))) (con' (.int 11))) nil')) (con' (.int 2147483647))) (gName' 7))
        (seq'
         (for' (iRng1' (cons' (con' (.int 12)) nil')) (gName' 6)
           (seq'
            (asg' (b2' rMod' (call' bInt (cons' (b2' rAdd' (b2' rAdd' (b2' rMul' (var' 7) (con' (.int 16807))) (b2' rMul' (con' (.int 7)) (var' 6))) (con' (.int 1))) nil')) (con' (.int 2147483647))) (gName' 7))
           (seq'
            (fun Z ρ M => (meth' "list" mAppend (var' 3) (cons' (b2' rMod' (call' bInt (cons' (b2' rDiv' (var' 7) (con' (.int 997))) nil')) (con' (.int 1000))) nil')) ρ M fun _ M1 => Z.nx ρ M1) next'))) next'))) next'))))
  (seq'
   (fun Z ρ M => (var' 3) ρ M Z.rt) next')))
/-- _law_draw: 0 _law_box, 1 _law_many, 2 _law_at -/
def n_law_draw : List Str := ["_law_box", "_law_many", "_law_at"]
def r_law_draw : S' :=
  (seq'
   (asg' (b2' rIx' (var' 0) (con' (.int 1))) (gName' 2))
  (seq'
   (asg' (b2' rAdd' (var' 2) (con' (.int 1))) (gSub' (var' 0) (con' (.int 1))))
  (seq'
   (if' (tt' (b2' rLt' (var' 2) (call' bLen (cons' (b2' rIx' (var' 0) (con' (.int 0))) nil'))))
     (seq'
      (fun Z ρ M => (b2' rMod' (call' bInt (cons' (b2' rIx' (b2' rIx' (var' 0) (con' (.int 0))) (var' 2)) nil')) (var' 1)) ρ M Z.rt) next')
     next')
  (seq'
   (fun Z ρ M => (con' (.int 0)) ρ M Z.rt) next'))))
/-- _law_pick: 0 _law_box, 1 _law_things -/
def n_law_pick : List Str := ["_law_box", "_law_things"]
def r_law_pick : S' :=
  (seq'
   (fun Z ρ M => (b2' rIx' (var' 1) (b2' rMod' (call' bInt (cons' (call' sp_law_draw (cons' (var' 0) (cons' (con' (.int 900)) nil'))) nil')) (call' bLen (cons' (var' 1) nil')))) ρ M Z.rt) next')
/-- _law_same: 0 _law_actual, 1 _law_due -/
def n_law_same : List Str := ["_law_actual", "_law_due"]
def r_law_same : S' :=
  (seq'
   (fun Z ρ M => (b2' (rEq' false) (call' bRepr (cons' (var' 0) nil')) (call' bRepr (cons' (var' 1) nil'))) ρ M Z.rt) next')
theorem v_law_cell (ds M Q) (h : sp_law_cell ds M Q) : runR r_law_cell n_law_cell ds M Q := by
  obtain ⟨a, ns, k, rfl, q⟩ := h
  unfold r_law_cell n_law_cell
  walk_at "px"
  by_cases hk : k < ns.length
  · rw [if_pos (by omega)]
    refine ⟨ns.getD k 0, by rw [atI_nat, getD_of hk], Up.of q⟩
  · rw [if_neg (by omega)]
    refine Fg.of ?_
    walk_at "px"
    rw [List.getD_eq_getElem?_getD, List.getElem?_eq_none (by omega)] at q
    exact Up.of q
theorem cm2 {i j : Int} (h : -(2 ^ 64) < i ∧ i < 2 ^ 64) : CMul i j := .inl h
theorem cm3 {i j : Int} (h : -(2 ^ 64) < j ∧ j < 2 ^ 64) : CMul i j := .inr h
/-- digits appended to what stands at p -/
theorem app_ok {M : Mp} {p : Addr} {zs : List Int} {z : Int} {R : Q1} (hl : zs.length ≤ 4000) (q : R .non (put M p (.lst ((zs ++ [z]).map .int)))) :
    mAppend (.ref p) [.int z] (put M p (.lst (zs.map .int))) R := ⟨_, put_same, by have := sz (n := zs.length) (by omega); simp; exact Nat.lt_of_le_of_lt hl (by decide), by rw [put_put]; simpa using q⟩
theorem ty_lst {M : Mp} {p : Addr} {xs : List D} : tyD "list" (put M p (.lst xs)) (.ref p) := .inl ⟨rfl, _, put_same⟩
theorem v_law_digits (ds M Q) (h : sp_law_digits ds M Q) : runR r_law_digits n_law_digits ds M Q := by
  obtain ⟨a, ns, n, rfl, hn, q⟩ := h
  unfold r_law_digits n_law_digits
  walk_at "px"
  intro p hp
  refine Fg.of ?_
  walk_at "px"
  refine ⟨by unfold small62; omega, by unfold small62; omega, ?_⟩
  let P (m : Nat) (M' : Mp) : Prop := ∃ zs : List Int, M' = put M p (.lst (zs.map .int)) ∧ (∀ z ∈ zs, Dig z) ∧ zs.length + 60 * m ≤ 3780
  refine wFor_ind (fun rest ρ M' => (∃ ks : List Nat, rest = ks.map fun (k : Nat) => .int (0 + (k : Int))) ∧ ρ = [some (.rol a ns), some (.int 0), some (.int n), some (.ref p), none, none, none, none] ∧ P rest.length M') ?turn ?fin _ _ _
    ⟨⟨_, rfl⟩, rfl, [], rfl, by simp, by simp; omega⟩
  case fin =>
    rintro ρ M' ⟨_, rfl, zs, rfl, hz, hl⟩
    refine ⟨trivial, Fg.of ?_⟩
    walk_at "px"
    exact Up.of (q zs p hz (by omega) hp)
  case turn =>
    rintro x xs ρ M' R ⟨⟨ks, hks⟩, rfl, zs, rfl, hz, hl⟩ hR
    refine ⟨trivial, ?_⟩
    cases ks with
    | nil => simp at hks
    | cons k ks =>
    simp only [List.map_cons, List.cons.injEq] at hks
    obtain ⟨rfl, hks⟩ := hks
    simp only [List.length_cons] at hl
    walk_at "px"
    refine ⟨a, ns, k, by simp, ?_⟩
    refine Fg.of ?_
    generalize ns.getD k 0 = cell
    -- one's own end of a turn
    have fin : ∀ (o4 o5 o6 o7 : Option D) (zs' : List Int), (∀ z ∈ zs', Dig z) → zs'.length ≤ zs.length + 60 → Fg R [some (.rol a ns), some (.int 0), some (.int n), some (.ref p), o4, o5, o6, o7] (put M p (.lst (zs'.map .int))) := by
      intro o4 o5 o6 o7 zs' h1 h2
      refine ⟨[some (.rol a ns), some (.int 0), some (.int n), some (.ref p), none, none, none, none], _, ?_, Mp.le.refl, hR _ _ ⟨⟨ks, hks⟩, rfl, zs', rfl, h1, by omega⟩⟩
      exact .keep (.keep (.keep (.keep (.drop (.drop (.drop (.drop .nil)))))))
    have big : ∀ (cell : Int) (o7 : Option D), ∀ Z : Ends', (∀ ρ M, Fg R ρ M → Z.nx ρ M) → wFor [] (gName' 6) (seq' (if' (tt' (b2' rGt' (var' 5) (con' (.int 0))))
              (seq' (fun Z ρ M => (meth' "list" mAppend (var' 3) (cons' (b2' rMod' (call' bInt (cons' (var' 5) nil')) (con' (.int 1000))) nil')) ρ M fun _ M1 => Z.nx ρ M1)
              (seq' (asg' (b2' rDiv' (var' 5) (con' (.int 1000))) (gName' 5)) next')) next') next') Z ((List.range 60).map fun (k : Nat) => .int (0 + (k : Int)))
          [some (.rol a ns), some (.int 0), some (.int n), some (.ref p), some (.int (0 + k)), some (.int cell), none, o7] (put M p (.lst (zs.map .int))) := by
      intro cell o7 Z hZ
      refine wFor_ind (fun rest ρ M' => (∃ ks : List Nat, rest = ks.map fun (k : Nat) => .int (0 + (k : Int))) ∧ ∃ (c : Int) (zs' : List Int), ρ = [some (.rol a ns), some (.int 0), some (.int n), some (.ref p), some (.int (0 + k)), some (.int c), none, o7] ∧
        M' = put M p (.lst (zs'.map .int)) ∧ (∀ z ∈ zs', Dig z) ∧ zs'.length + rest.length ≤ zs.length + 60) ?_ ?_ _ _ _ ⟨⟨_, rfl⟩, cell, zs, rfl, rfl, hz, by simp⟩
      · rintro x xs ρ M' R2 ⟨⟨ks, hks⟩, c, zs', rfl, rfl, h1, h2⟩ hR2
        refine ⟨trivial, ?_⟩
        cases ks with
        | nil => simp at hks
        | cons k2 ks =>
        simp only [List.map_cons, List.cons.injEq] at hks
        obtain ⟨rfl, hks⟩ := hks
        simp only [List.length_cons] at h2
        walk_at "px"
        have fin2 : ∀ (o : Option D) (c : Int) (zs2 : List Int), (∀ z ∈ zs2, Dig z) → zs2.length + xs.length ≤ zs.length + 60 → Fg R2 [some (.rol a ns), some (.int 0), some (.int n), some (.ref p), some (.int (0 + k)), some (.int c), o, o7] (put M p (.lst (zs2.map .int))) := by
          intro o c zs2 g1 g2
          exact ⟨[some (.rol a ns), some (.int 0), some (.int n), some (.ref p), some (.int (0 + k)), some (.int c), none, o7], _, .keep (.keep (.keep (.keep (.keep (.keep (.drop (.keep .nil))))))), Mp.le.refl, hR2 _ _ ⟨⟨ks, hks⟩, c, zs2, rfl, rfl, g1, g2⟩⟩
        by_cases h0 : 0 < c
        · rw [if_pos h0]
          refine ⟨ty_lst, by decide, app_ok (by omega) (Fg.of ?_)⟩
          walk_at "px"
          refine ⟨⟨by decide, by decide⟩, Fg.of ?_⟩
          refine fin2 _ _ (zs' ++ [c % 1000]) (fun z hz' => ?_) (by simp; omega)
          rcases List.mem_append.mp hz' with g | g
          · exact h1 z g
          · rw [List.mem_singleton.mp g]; unfold Dig; omega
        · rw [if_neg h0]
          exact fin2 _ _ _ h1 (by omega)
      · rintro ρ M' ⟨_, c, zs', rfl, rfl, h1, h2⟩
        refine ⟨trivial, ?_⟩
        exact hZ _ _ (fin _ _ _ _ zs' h1 (by simp at h2; omega))
    have sml : ∀ (seed : Int) (o5 : Option D) (Z : Ends'), (∀ ρ M, Fg R ρ M → Z.nx ρ M) → wFor [] (gName' 6) (seq' (asg' (b2' rMod' (call' bInt (cons' (b2' rAdd' (b2' rAdd' (b2' rMul' (var' 7) (con' (.int 16807))) (b2' rMul' (con' (.int 7)) (var' 6))) (con' (.int 1))) nil')) (con' (.int 2147483647))) (gName' 7))
           (seq' (fun Z ρ M => (meth' "list" mAppend (var' 3) (cons' (b2' rMod' (call' bInt (cons' (b2' rDiv' (var' 7) (con' (.int 997))) nil')) (con' (.int 1000))) nil')) ρ M fun _ M1 => Z.nx ρ M1) next')) Z ((List.range 12).map fun (k : Nat) => .int (0 + (k : Int)))
          [some (.rol a ns), some (.int 0), some (.int n), some (.ref p), some (.int (0 + k)), o5, none, some (.int seed)] (put M p (.lst (zs.map .int))) := by
      intro seed o5 Z hZ
      refine wFor_ind (fun rest ρ M' => (∃ ks : List Nat, rest = ks.map fun (k : Nat) => .int (0 + (k : Int))) ∧ ∃ (c : Int) (zs' : List Int), ρ = [some (.rol a ns), some (.int 0), some (.int n), some (.ref p), some (.int (0 + k)), o5, none, some (.int c)] ∧
        M' = put M p (.lst (zs'.map .int)) ∧ (∀ z ∈ zs', Dig z) ∧ zs'.length + rest.length ≤ zs.length + 60) ?_ ?_ _ _ _ ⟨⟨_, rfl⟩, seed, zs, rfl, rfl, hz, by simp⟩
      · rintro x xs ρ M' R2 ⟨⟨ks, hks⟩, c, zs', rfl, rfl, h1, h2⟩ hR2
        refine ⟨trivial, ?_⟩
        cases ks with
        | nil => simp at hks
        | cons k2 ks =>
        simp only [List.map_cons, List.cons.injEq] at hks
        obtain ⟨rfl, hks⟩ := hks
        simp only [List.length_cons] at h2
        walk_at "px"
        refine ⟨cm3 (by decide), cm2 (by decide), by decide, Fg.of ?_⟩
        walk_at "px"
        refine ⟨ty_lst, ⟨by decide, by decide⟩, by decide, app_ok (by omega) ?_⟩
        refine ⟨[some (.rol a ns), some (.int 0), some (.int n), some (.ref p), some (.int (0 + k)), o5, none, some _], _, .keep (.keep (.keep (.keep (.keep (.keep (.drop (.keep .nil))))))), Mp.le.refl, hR2 _ _ ⟨⟨ks, hks⟩, _, zs' ++ [_], rfl, rfl, fun z hz' => ?_, by simp; omega⟩⟩
        rcases List.mem_append.mp hz' with g | g
        · exact h1 z g
        · rw [List.mem_singleton.mp g]; unfold Dig; omega
      · rintro ρ M' ⟨_, c, zs', rfl, rfl, h1, h2⟩
        refine ⟨trivial, ?_⟩
        exact hZ _ _ (fin _ _ _ _ zs' h1 (by simp at h2; omega))
    have go : ∀ (cell : Int), if' (tt' (b2' rGe' (var' 5) (b2' rPow' (con' (.int 10)) (con' (.int 18)))))
        (seq' (for' (iRng1' (cons' (con' (.int 60)) nil')) (gName' 6) (seq' (if' (tt' (b2' rGt' (var' 5) (con' (.int 0))))
              (seq' (fun Z ρ M => (meth' "list" mAppend (var' 3) (cons' (b2' rMod' (call' bInt (cons' (var' 5) nil')) (con' (.int 1000))) nil')) ρ M fun _ M1 => Z.nx ρ M1)
              (seq' (asg' (b2' rDiv' (var' 5) (con' (.int 1000))) (gName' 5)) next')) next') next')) next')
        (seq' (asg' (b2' rMod' (call' bInt (cons' (b2' rAdd' (b2' rAdd' (b2' rMul' (var' 5) (con' (.int 48271))) (b2' rMul' (var' 4) (con' (.int 69621)))) (con' (.int 11))) nil')) (con' (.int 2147483647))) (gName' 7))
        (seq' (for' (iRng1' (cons' (con' (.int 12)) nil')) (gName' 6)
           (seq' (asg' (b2' rMod' (call' bInt (cons' (b2' rAdd' (b2' rAdd' (b2' rMul' (var' 7) (con' (.int 16807))) (b2' rMul' (con' (.int 7)) (var' 6))) (con' (.int 1))) nil')) (con' (.int 2147483647))) (gName' 7))
           (seq' (fun Z ρ M => (meth' "list" mAppend (var' 3) (cons' (b2' rMod' (call' bInt (cons' (b2' rDiv' (var' 7) (con' (.int 997))) nil')) (con' (.int 1000))) nil')) ρ M fun _ M1 => Z.nx ρ M1) next'))) next'))
        { nx := Fg R, rt := Up Q, bk := fun _ _ => False, ct := fun _ _ => False }
        [some (.rol a ns), some (.int 0), some (.int n), some (.ref p), some (.int (0 + k)), some (.int cell), none, none] (put M p (.lst (zs.map .int))) := by
      intro cell
      walk_at "px"
      refine ⟨⟨by decide, by decide, by decide⟩, ?_⟩
      by_cases h : (10 : Int) ^ (18 : Int).toNat ≤ cell
      · rw [if_pos h]
        refine ⟨by unfold small62; omega, ?_⟩
        exact big cell none _ fun _ _ h => Fg.of h
      · rw [if_neg h]
        refine ⟨cm3 (by decide), cm3 (by decide), by decide, Fg.of ?_⟩
        walk_at "px"
        refine ⟨by unfold small62; omega, ?_⟩
        exact sml _ _ _ fun _ _ h => Fg.of h
    walk_at "px"
    by_cases h : cell < 0
    · rw [if_pos h]
      refine ⟨cm2 (by decide), Fg.of (Fg.of ?_)⟩
      exact go _
    · rw [if_neg h]
      refine Fg.of ?_
      exact go _
theorem v_law_draw (ds M Q) (h : sp_law_draw ds M Q) : runR r_law_draw n_law_draw ds M Q := by
  obtain ⟨b, a, zs, m, rfl, hm, ⟨hab, ⟨i, mb⟩, ma, hz⟩, q⟩ := h
  have mb' : M b = some (.lst [.ref a, .int i]) := mb
  unfold r_law_draw n_law_draw
  walk_at "px"
  refine ⟨_, _, mb', rfl, Fg.of ?_⟩
  walk_at "px"
  refine ⟨_, 1, mb', rfl, Fg.of ?_⟩
  walk_at "px"
  refine ⟨_, _, put_same, rfl, ?_⟩
  walk_at "px"
  refine ⟨_, (put_ne hab).trans ma, ?_⟩
  by_cases h : (i : Int) < ((zs.map D.int).length : Nat)
  · rw [if_pos h]
    refine ⟨_, _, put_same, rfl, ?_⟩
    have hi : i < zs.length := by simpa using h
    refine ⟨_, .int (zs.getD i 0), (put_ne hab).trans ma, by rw [atI_nat, List.getElem?_map, getD_of hi]; rfl, ?_⟩
    walk_at "px"
    refine ⟨by omega, ?_⟩
    have e : zs.getD i 0 % (m : Int) = ((zs.getD i 0 % (m : Int)).toNat : Int) := (Int.toNat_of_nonneg (Int.emod_nonneg _ (by omega))).symm
    rw [e]
    refine Up.of (q _ (i + 1) ?_)
    have := Int.emod_lt_of_pos (zs.getD i 0) (show (0 : Int) < m by omega)
    omega
  · rw [if_neg h]
    refine Fg.of ?_
    walk_at "px"
    exact Up.of (q 0 (i + 1) hm)
theorem v_law_pick (ds M Q) (h : sp_law_pick ds M Q) : runR r_law_pick n_law_pick ds M Q := by
  obtain ⟨b, a, zs, x, xs, rfl, hx, hne, hb, q⟩ := h
  have hl : 0 < xs.length := List.length_pos_iff.mpr hne
  unfold r_law_pick n_law_pick
  walk_at "px"
  refine ⟨b, a, zs, 900, rfl, by decide, hb, fun j i hj => ?_⟩
  walk_at "px"
  have ix : ((j : Int) % (xs.length : Int)) = ((j % xs.length : Nat) : Int) := by omega
  have hlt : j % xs.length < xs.length := Nat.mod_lt _ hl
  have hmem : xs[j % xs.length] ∈ xs := List.getElem_mem hlt
  rcases hx with rfl | ⟨l, rfl, hab, ml⟩
  · walk_at "px"
    refine ⟨by omega, ?_⟩
    rw [ix]
    walk_at "px"
    exact ⟨_, List.getElem?_eq_getElem hlt, Up.of (q _ _ hmem)⟩
  · walk_at "px"
    refine ⟨xs, (put_ne hab).trans ml, by omega, ?_⟩
    rw [ix]
    exact ⟨_, _, (put_ne hab).trans ml, by rw [atI_nat]; exact List.getElem?_eq_getElem hlt, Up.of (q _ _ hmem)⟩
theorem v_law_same (ds M Q) (h : sp_law_same ds M Q) : runR r_law_same n_law_same ds M Q := by
  obtain ⟨x, y, z, rfl, hx, hy, q⟩ := h
  unfold r_law_same n_law_same
  walk_at "px"
  refine x_repr hx (x_repr hy ?_)
  walk_at "px"
  rw [decide_eq_true trivial]
  exact Up.of q
inductive All2 {α β : Type} (r : α → β → Prop) : List α → List β → Prop
  | nil : All2 r [] []
  | cons {x : α} {y : β} {xs : List α} {ys : List β} : r x y → All2 r xs ys → All2 r (x :: xs) (y :: ys)
theorem All2.ints {α : Type} {r : α → D → Prop} {P : Int → Prop} (h : ∀ x z, r x z → ∃ k : Int, z = .int k ∧ P k) {xs : List α} {ys : List D} (a : All2 r xs ys) : ∃ ks : List Int, ys = ks.map .int ∧ ks.length = xs.length ∧ ∀ k ∈ ks, P k := by
  induction a with
  | nil => exact ⟨[], rfl, rfl, by simp⟩
  | cons hr _ ih =>
    obtain ⟨k, rfl, hk⟩ := h _ _ hr
    obtain ⟨ks, rfl, hl, hks⟩ := ih
    refine ⟨k :: ks, rfl, by simp [hl], fun z hz => ?_⟩
    rcases List.mem_cons.mp hz with rfl | hz
    · exact hk
    · exact hks z hz
/-- t draws, and gives what is ok -/
def Gd (t : E') (ρ : Rho) (M : Mp) (b a : Addr) (ok : D → Prop) : Prop := ∀ Q : Q1, (∀ z, ∀ i : Nat, ∀ M', ok z → (put M b (bx a i)).le M' → Q z M') → t ρ M Q
theorem put_comm {M : Mp} {p b : Addr} {o u : MO} (h : p ≠ b) : put (put M p o) b u = put (put M b u) p o := by
  funext c
  unfold put
  by_cases h1 : c = b
  · rw [if_pos h1, if_neg (by rw [h1]; exact fun e => h e.symm), if_pos h1]
  · rw [if_neg h1, if_neg h1]
/-- M' is M, but for the box, and may know more -/
def Dr (M : Mp) (b a : Addr) (M' : Mp) : Prop := ∃ i : Nat, (put M b (bx a i)).le M'
section
variable {M M' M'' : Mp} {b a p : Addr} {ws : List Int}
theorem put_id {o : MO} (h : M b = some o) : put M b o = M := by
  funext c
  unfold put
  by_cases hc : c = b
  · rw [if_pos hc, hc, h]
  · rw [if_neg hc]
theorem Dr.refl (hb : Box M b a ws) : Dr M b a M := by
  obtain ⟨_, ⟨i, e⟩, _⟩ := hb
  exact ⟨i, by rw [put_id e]; exact Mp.le.refl⟩
theorem Dr.of (i : Nat) : Dr M b a (put M b (bx a i)) := ⟨i, Mp.le.refl⟩
theorem Dr.more (h : Dr M b a M') (l : M'.le M'') : Dr M b a M'' := h.imp fun _ k => k.trans l
theorem le_draw {u v : MO} (h : (put M b u).le M') : (put M b v).le (put M' b v) := fun c o e => by
  by_cases hc : c = b
  · rw [hc, put_same] at e ⊢; exact e
  · rw [put_ne hc] at e ⊢
    exact h c o (by rw [put_ne hc]; exact e)
theorem Dr.trans (h : Dr M b a M') (k : Dr M' b a M'') : Dr M b a M'' := by
  obtain ⟨i, h⟩ := h
  obtain ⟨j, k⟩ := k
  exact ⟨j, (le_draw h).trans k⟩
theorem Dr.draw (h : Dr M b a M') (i : Nat) : Dr M b a (put M' b (bx a i)) := h.trans (Dr.of i)
theorem Dr.new {o : MO} (h : Dr M b a M') (n : M' p = none) : Dr M b a (put M' p o) := h.more (Mp.le.new n)
theorem Dr.box (h : Dr M b a M') (hb : Box M b a ws) : Box M' b a ws := by
  obtain ⟨i, h⟩ := h
  exact (hb.go i).le h
theorem Dr.keep {c : Addr} {o : MO} (h : Dr M b a M') (hc : c ≠ b) (e : M c = some o) : M' c = some o := by
  obtain ⟨i, h⟩ := h
  exact h c o (by rw [put_ne hc]; exact e)
end
/-- a comprehension whose elements draw -/
theorem comp_draw' {α : Type} {y : Stay} {ct : CT} {own : List Nat} {te : E'} {p : Addr} {ρ : Rho} {Q : Q1} {M : Mp} {b a : Addr} {ws : List Int} (e : α → D) (ok : α → D → Prop) (n : M p = none) (hb : Box M b a ws) (st : ∀ M1, Dr M b a M1 → StayM M1 y) :
    ∀ (xs : List α) (acc : List D) (M1 : Mp), Dr M b a M1 → M1 p = some (.lst acc) → acc.length + xs.length ≤ sizeLine →
      (∀ x ∈ xs, ∃ ρ1, ct.set (e x) (wipeD ρ own) = some ρ1 ∧ ∀ M1, Dr M b a M1 → Gd te ρ1 M1 b a (ok x)) →
      (∀ zs M2, All2 ok xs zs → Dr M b a M2 → M2 p = some (.lst (acc ++ zs)) → Q (.ref p) M2) → wComp y ct own yes' te p ρ Q (xs.map e) acc M1
  | [], acc, M1, d, m1, _, _, q => ⟨st M1 d, q [] M1 .nil d (by simpa using m1)⟩
  | x :: xs, acc, M1, d, m1, hl, hx, q => by
    rw [List.map_cons]
    unfold wComp
    refine ⟨st M1 d, ?_⟩
    obtain ⟨ρ1, e1, h⟩ := hx x (by simp)
    rw [e1]
    simp only [List.length_cons] at hl
    unfold yes'
    simp only [if_true]
    have hpb := (hb.ne n).1
    refine h M1 d _ fun z i' M' hz hle => ?_
    have mp : M' p = some (.lst acc) := hle p _ (by rw [put_ne hpb]; exact m1)
    have d' : Dr M b a M' := d.trans ⟨i', hle⟩
    refine ⟨M', Mp.le.refl, mp, by omega, ?_⟩
    have d2 : Dr M b a (put M' p (.lst (acc ++ [z]))) := by
      obtain ⟨j, k⟩ := d'
      refine ⟨j, fun c o ec => ?_⟩
      by_cases hc : c = p
      · rw [hc, put_ne hpb, n] at ec; cases ec
      · rw [put_ne hc]; exact k c o ec
    refine comp_draw' e ok n hb st xs _ _ d2 put_same (by simp; omega) (fun x hx' => hx x (List.mem_cons_of_mem _ hx')) fun zs M2 hf d3 m3 => ?_
    exact q (z :: zs) M2 (.cons hz hf) d3 (by simpa using m3)
theorem comp_draw {α : Type} {y : Stay} {ct : CT} {own : List Nat} {te : E'} {p : Addr} {ρ : Rho} {Q : Q1} {M : Mp} {b a : Addr} {ws : List Int} {xs : List α} (e : α → D) (ok : α → D → Prop) (n : M p = none) (hb : Box M b a ws) (st : ∀ M1, Dr M b a M1 → StayM M1 y)
    (hl : xs.length ≤ sizeLine) (hx : ∀ x ∈ xs, ∃ ρ1, ct.set (e x) (wipeD ρ own) = some ρ1 ∧ ∀ M1, Dr M b a M1 → Gd te ρ1 M1 b a (ok x))
    (q : ∀ zs M2, All2 ok xs zs → Dr M b a M2 → M2 p = some (.lst zs) → Q (.ref p) M2) : wComp y ct own yes' te p ρ Q (xs.map e) [] (put M p (.lst [])) :=
  comp_draw' e ok n hb st xs [] _ ((Dr.refl hb).new n) put_same (by simpa using hl) hx (fun zs M2 h1 h2 h3 => q zs M2 h1 h2 (by simpa using h3))
end Pw
set_option Elab.async false
set_option linter.all false
set_option maxRecDepth 100000
set_option maxHeartbeats 1000000
/-! what repr gives of small data -/
namespace Pw
open PySem PySem.Spec PyProof.Rows L2
local macro_rules | `(tactic| walk_at "px") => `(tactic| simp only [x_ix0, x_wipe0, x_wipeS, x_ix1, x_ix2, x_ix3, x_ixt, x_ixR, x_ixl, x_addI, x_addS, x_addT, x_sub, x_div, x_mod, x_pow, x_mul, x_lt, x_le, x_gt, x_ge, x_eqI, x_neI, x_eqS, x_neS, x_isN, x_notN, x_isB, x_notB, x_b2, x_con, x_var0, x_varS, x_call, x_nil, x_cons, x_tup, x_lst, x_tt, x_truB, x_truI, x_truN, x_truT, x_nt, x_an, x_ro, x_neg, x_not, x_ite, x_and, x_or, x_chain, x_asg, x_gName, x_seq, x_next, x_if, x_for, x_iVal, x_itT, x_iEnum, x_enT, x_iZip, x_zipT, x_iRev, x_rvT, x_rng1, x_rng2, x_rng3, x_comp, x_slc, x_noP, x_part, x_meth, x_gTup, x_gCons, x_gNil, x_gSub, x_bTupleT, x_bTupleL, x_bLenT, x_bLenL, x_bLenR, x_bAbs, x_bInt, x_bIntB, x_ixI, runR, startD, List.map_cons, List.map_nil, List.length_cons, List.length_nil, Nat.reduceAdd, Nat.reduceSub, List.replicate_succ, List.replicate_zero, List.cons_append, List.nil_append, List.set_cons_zero, List.set_cons_succ, Option.some.injEq, exists_eq_left', sl0, sl1, sl2, sl3, sl4, sl5, sl6, true_and, and_true, List.append_nil, Bool.false_eq_true, if_true, if_false, ite_true, ite_false, reduceIte, decide_eq_true_eq, Bool.not_eq_true', decide_eq_false_iff_not, Bool.not_true, Bool.not_false, gt_iff_lt, ge_iff_le, Int.reduceAdd, Int.reduceSub, Int.reduceMul, Int.reduceNeg])

mutual
def smD : D → Bool
  | .int i => decide (i.natAbs < 10 ^ 18)
  | .bl _ => true
  | .non => true
  | .str x => x.cps.toList.all fun c => decide (c < 1114112)
  | .tup xs => smL xs
  | _ => false
def smL : List D → Bool
  | [] => true
  | x :: xs => smD x && smL xs
end
mutual
def wD : D → Nat
  | .int _ => 20
  | .bl _ => 5
  | .non => 4
  | .str x => 10 * x.length + 2
  | .tup xs => wL xs + 4
  | _ => 0
def wL : List D → Nat
  | [] => 0
  | x :: xs => wD x + 2 + wL xs
end
theorem len_int {i : Int} (h : i.natAbs < 10 ^ 18) : (Str.ofString (toString i)).length ≤ 20 := by
  by_cases h0 : 0 ≤ i
  · exact Nat.le_trans (toString_length_le h0 (by decide) (show i < 10 ^ 18 by omega)) (by decide)
  · obtain ⟨n, rfl⟩ : ∃ n : Nat, i = Int.negSucc n := by
      cases i with
      | ofNat n => exact absurd (Int.natCast_nonneg n) h0
      | negSucc n => exact ⟨n, rfl⟩
    have h1 : (toString (Int.negSucc n)) = "-" ++ toString (((n + 1 : Nat) : Int)) := rfl
    have h2 := toString_length_le (v := ((n + 1 : Nat) : Int)) (by omega) (k := 18) (by decide) (by simp at h; omega)
    rw [h1, PyProof.Rows.ofString_length, String.toList_append, List.length_append]
    rw [PyProof.Rows.ofString_length] at h2
    have h3 : ("-" : String).toList.length = 1 := by decide +kernel
    omega
mutual
theorem sm_shown : ∀ (d : D), smD d = true → (py d).showable = true ∧ (py d).shown.length ≤ wD d
  | .int i, h => by
    simp only [smD, decide_eq_true_eq] at h
    simp only [py, PyData.showable, PyData.shown, wD, decide_eq_true_eq]
    refine ⟨?_, len_int h⟩
    by_cases h0 : i.natAbs = 0
    · rw [h0]; decide
    · exact Nat.lt_of_lt_of_le ((Nat.log2_lt h0).mpr (Nat.lt_of_lt_of_le h (show 10 ^ 18 ≤ 2 ^ 60 by decide))) (by decide)
  | .bl b, _ => by cases b <;> exact ⟨rfl, by decide +kernel⟩
  | .non, _ => ⟨rfl, by decide +kernel⟩
  | .str x, h => by
    simp only [smD, List.all_eq_true, decide_eq_true_eq] at h
    simp only [py, PyData.showable, PyData.shown, wD, true_and]
    exact StrLaws.reprText_len x fun c hc => Nat.lt_trans (h c hc) (by decide)
  | .tup xs, h => by
    simp only [smD] at h
    obtain ⟨a, b⟩ := smL_shown xs h
    simp only [py, PyData.showable, PyData.shown, wD]
    refine ⟨a, ?_⟩
    unfold tupleText
    rw [strLen_append, strLen_append]
    have e1 : ((("(" : String) : Str)).length = 1 := rfl
    have e3 : (((if (PyData.shownAll (pyL xs)).length == 1 then ",)" else ")" : String) : Str)).length ≤ 2 := by split <;> decide +kernel
    rw [e1]
    by_cases hn : PyData.shownAll (pyL xs) = []
    · rw [hn] at b e3 ⊢
      have : (Str.join ", " ([] : List Str)).length = 0 := rfl
      omega
    · have := join_length_add _ hn
      omega
  | .ref _, h => by simp [smD] at h
  | .ty _, h => by simp [smD] at h
  | .rol _ _, h => by simp [smD] at h
theorem smL_shown : ∀ (ds : List D), smL ds = true → PyData.showableAll (pyL ds) = true ∧ piled (PyData.shownAll (pyL ds)) ≤ wL ds
  | [], _ => ⟨by simp [pyL, PyData.showableAll], by simp [pyL, PyData.shownAll, piled, wL]⟩
  | d :: ds, h => by
    simp only [smL, Bool.and_eq_true] at h
    obtain ⟨a1, b1⟩ := sm_shown d h.1
    obtain ⟨a2, b2⟩ := smL_shown ds h.2
    simp only [pyL, PyData.showableAll, PyData.shownAll, wL, Bool.and_eq_true]
    rw [piled_cons]
    exact ⟨⟨a1, a2⟩, by omega⟩
end
theorem reOk_of {d : D} (h : fl d dep = true) (s : smD d = true) (w : wD d ≤ 1000000) : reOk d := ⟨h, (sm_shown d s).1, Nat.le_trans (sm_shown d s).2 (Nat.le_trans w (by decide))⟩
theorem show_of {M : Mp} {d : D} (h : fl d dep = true) (s : smD d = true) (w : wD d ≤ 1000000) : ShowAs M d (py d).shown := by
  cases d with
  | ref a => simp [smD] at s
  | _ => exact ⟨reOk_of h s w, rfl⟩
theorem show_int {M : Mp} {i : Int} (h : -(10 ^ 18) < i ∧ i < 10 ^ 18) : ShowAs M (.int i) (py (.int i)).shown := show_of (by simp [fl]) (by simp [smD]; omega) (by simp [wD])
theorem show_bl {M : Mp} {b : Bool} : ShowAs M (.bl b) (py (.bl b)).shown := show_of (by simp [fl]) (by simp [smD]) (by simp [wD])
theorem smL_ints : ∀ {l : List Int}, (∀ i ∈ l, -(10 ^ 18) < i ∧ i < 10 ^ 18) → smL (l.map .int) = true ∧ wL (l.map D.int) = 22 * l.length
  | [], _ => ⟨by simp [smL], by simp [wL]⟩
  | i :: l, h => by
    obtain ⟨a, b⟩ := smL_ints (l := l) fun j hj => h j (by simp [hj])
    have := h i (by simp)
    simp only [List.map_cons, smL, smD, wL, wD, a, b, Bool.and_true, decide_eq_true_eq, List.length_cons]
    omega
theorem show_ints {M : Mp} {l : List Int} (h : ∀ i ∈ l, -(10 ^ 18) < i ∧ i < 10 ^ 18) (hl : l.length ≤ 10000) : ShowAs M (dI l) (py (dI l)).shown := by
  obtain ⟨a, b⟩ := smL_ints h
  exact show_of (by simp only [dI, fl]; exact flL_map fun _ => by simp [fl]) (by simp only [dI, smD]; exact a) (by simp only [dI, wD]; omega)
end Pw
set_option Elab.async false
set_option linter.all false
set_option maxRecDepth 100000
set_option maxHeartbeats 1000000
/-! the second family's draw -/
namespace Pw
open PySem PySem.Spec PyProof.Rows L2
local macro_rules | `(tactic| walk_at "px") => `(tactic| simp only [x_ix0, x_wipe0, x_wipeS, x_ix1, x_ix2, x_ix3, x_ixt, x_ixR, x_ixl, x_addI, x_addS, x_addT, x_sub, x_div, x_mod, x_pow, x_mul, x_lt, x_le, x_gt, x_ge, x_eqI, x_neI, x_eqS, x_neS, x_isN, x_notN, x_isB, x_notB, x_b2, x_con, x_var0, x_varS, x_call, x_nil, x_cons, x_tup, x_lst, x_tt, x_truB, x_truI, x_truN, x_truT, x_nt, x_an, x_ro, x_neg, x_not, x_ite, x_and, x_or, x_chain, x_asg, x_gName, x_seq, x_next, x_if, x_for, x_iVal, x_itT, x_iEnum, x_enT, x_iZip, x_zipT, x_iRev, x_rvT, x_rng1, x_rng2, x_rng3, x_comp, x_slc, x_noP, x_part, x_meth, x_gTup, x_gCons, x_gNil, x_gSub, x_bTupleT, x_bTupleL, x_bLenT, x_bLenL, x_bLenR, x_bAbs, x_bInt, x_bIntB, x_ixI, runR, startD, List.map_cons, List.map_nil, List.length_cons, List.length_nil, Nat.reduceAdd, Nat.reduceSub, List.replicate_succ, List.replicate_zero, List.cons_append, List.nil_append, List.set_cons_zero, List.set_cons_succ, Option.some.injEq, exists_eq_left', sl0, sl1, sl2, sl3, sl4, sl5, sl6, true_and, and_true, List.append_nil, Bool.false_eq_true, if_true, if_false, ite_true, ite_false, reduceIte, decide_eq_true_eq, Bool.not_eq_true', decide_eq_false_iff_not, Bool.not_true, Bool.not_false, gt_iff_lt, ge_iff_le, Int.reduceAdd, Int.reduceSub, Int.reduceMul, Int.reduceNeg])
abbrev sp_law_drawB : RC' := sp_law_draw
/-! _law_draw: 0 _law_box, 1 _law_many, 2 _law_at -/
def n_law_drawB : List Str := ["_law_box", "_law_many", "_law_at"]
/-- row 5 -/
def r_law_drawB_3 : S' := seq' (fun Z ρ M => (b2' rMod' (call' bInt (cons' (b2' rAdd' (b2' rMul' (var' 2) (con' (.int 7))) (con' (.int 3))) nil')) (var' 1)) ρ M Z.rt) next'
/-- row 4 -/
def r_law_drawB_4 : S' := seq' (fun Z ρ M => (b2' rMod' (call' bInt (cons' (b2' rIx' (b2' rIx' (var' 0) (con' (.int 0))) (var' 2)) nil')) (var' 1)) ρ M Z.rt) next'
/-- row 3 -/
def r_law_drawB_2 : S' := seq' (if' (tt' (b2' rLt' (var' 2) (call' bLen (cons' (b2' rIx' (var' 0) (con' (.int 0))) nil')))) r_law_drawB_4 next') r_law_drawB_3
/-- row 2 -/
def r_law_drawB_1 : S' := seq' (asg' (b2' rAdd' (var' 2) (con' (.int 1))) (gSub' (var' 0) (con' (.int 1)))) r_law_drawB_2
/-- row 1 -/
def r_law_drawB : S' := seq' (asg' (b2' rIx' (var' 0) (con' (.int 1))) (gName' 2)) r_law_drawB_1
theorem v_law_drawB (ds M Q) (h : sp_law_drawB ds M Q) : runR r_law_drawB n_law_drawB ds M Q := by
  obtain ⟨b, a, zs, m, rfl, hm, ⟨hab, ⟨i, mb⟩, ma, hz⟩, q⟩ := h
  have mb' : M b = some (.lst [.ref a, .int i]) := mb
  have md : ∀ z : Int, ∃ j : Nat, z % (m : Int) = (j : Int) ∧ j < m := fun z =>
    ⟨(z % (m : Int)).toNat, (Int.toNat_of_nonneg (Int.emod_nonneg _ (by omega))).symm, by have := Int.emod_lt_of_pos z (show (0 : Int) < m by omega); have := Int.emod_nonneg z (show (m : Int) ≠ 0 by omega); omega⟩
  unfold r_law_drawB n_law_drawB
  walk_at "px"
  refine ⟨_, _, mb', rfl, Fg.of ?_⟩
  unfold r_law_drawB_1
  walk_at "px"
  refine ⟨_, 1, mb', rfl, Fg.of ?_⟩
  unfold r_law_drawB_2
  walk_at "px"
  refine ⟨_, _, put_same, rfl, ?_⟩
  walk_at "px"
  refine ⟨_, (put_ne hab).trans ma, ?_⟩
  by_cases h : (i : Int) < ((zs.map D.int).length : Nat)
  · rw [if_pos h]
    unfold r_law_drawB_4
    walk_at "px"
    refine ⟨_, _, put_same, rfl, ?_⟩
    have hi : i < zs.length := by simpa using h
    refine ⟨_, .int (zs.getD i 0), (put_ne hab).trans ma, by rw [atI_nat, List.getElem?_map, getD_of hi]; rfl, ?_⟩
    walk_at "px"
    obtain ⟨j, e, hj⟩ := md (zs.getD i 0)
    exact ⟨by omega, by rw [e]; exact Up.of (q j (i + 1) hj)⟩
  · rw [if_neg h]
    refine Fg.of ?_
    unfold r_law_drawB_3
    walk_at "px"
    obtain ⟨j, e, hj⟩ := md ((i : Int) * 7 + 3)
    exact ⟨cm3 (by decide), by omega, by rw [e]; exact Up.of (q j (i + 1) hj)⟩
end Pw
set_option Elab.async false
set_option linter.all false
set_option maxRecDepth 100000
set_option maxHeartbeats 1000000
/-! law k34: profiles -/
namespace Pw
open PySem PySem.Spec PyProof.Rows L2
local macro_rules | `(tactic| walk_at "px") => `(tactic| simp only [x_ix0, x_wipe0, x_wipeS, x_ix1, x_ix2, x_ix3, x_ixt, x_ixR, x_ixl, x_addI, x_addS, x_addT, x_sub, x_div, x_mod, x_pow, x_mul, x_lt, x_le, x_gt, x_ge, x_eqI, x_neI, x_eqS, x_neS, x_isN, x_notN, x_isB, x_notB, x_b2, x_con, x_var0, x_varS, x_call, x_nil, x_cons, x_tup, x_lst, x_tt, x_truB, x_truI, x_truN, x_truT, x_nt, x_an, x_ro, x_neg, x_not, x_ite, x_and, x_or, x_chain, x_asg, x_gName, x_seq, x_next, x_if, x_for, x_iVal, x_itT, x_iEnum, x_enT, x_iZip, x_zipT, x_iRev, x_rvT, x_rng1, x_rng2, x_rng3, x_comp, x_slc, x_noP, x_part, x_meth, x_gTup, x_gCons, x_gNil, x_gSub, x_bTupleT, x_bTupleL, x_bLenT, x_bLenL, x_bLenR, x_bAbs, x_bInt, x_bIntB, x_ixI, runR, startD, List.map_cons, List.map_nil, List.length_cons, List.length_nil, Nat.reduceAdd, Nat.reduceSub, List.replicate_succ, List.replicate_zero, List.cons_append, List.nil_append, List.set_cons_zero, List.set_cons_succ, Option.some.injEq, exists_eq_left', sl0, sl1, sl2, sl3, sl4, sl5, sl6, true_and, and_true, List.append_nil, Bool.false_eq_true, if_true, if_false, ite_true, ite_false, reduceIte, decide_eq_true_eq, Bool.not_eq_true', decide_eq_false_iff_not, Bool.not_true, Bool.not_false, gt_iff_lt, ge_iff_le, Int.reduceAdd, Int.reduceSub, Int.reduceMul, Int.reduceNeg])

/-! ### texts -/
theorem str_eq {x y : Str} (h : x.cps.toList = y.cps.toList) : x = y := by
  cases x; cases y
  simp only at h
  rw [Array.toList_inj.mp h]
theorem cps_app (a b : Str) : (a ++ b).cps.toList = a.cps.toList ++ b.cps.toList := by
  show (a.cps ++ b.cps).toList = _
  simp
theorem app_assoc (a b c : Str) : a ++ b ++ c = a ++ (b ++ c) := str_eq (by simp only [cps_app, List.append_assoc])
theorem len_app (a b : Str) : (a ++ b).length = a.length + b.length := strLen_append a b
theorem empty_cps : ("" : Str).cps.toList = [] := by decide +kernel
theorem app_nil (a : Str) : a ++ ("" : Str) = a := str_eq (by rw [cps_app]; rw [empty_cps, List.append_nil])
theorem nil_app (a : Str) : ("" : Str) ++ a = a := str_eq (by rw [cps_app]; rw [empty_cps, List.nil_append])
theorem len_rep (a : Str) (n : Nat) : (strRep a n).length = n * a.length := by
  show (List.replicate n a.cps.toList).flatten.toArray.size = _
  rw [List.size_toArray, PyProof.Rows.lm_len_rep_flat, Array.length_toList]; rfl
theorem rep_succ (a : Str) (n : Nat) : strRep a (n + 1) = a ++ strRep a n := str_eq (by
  rw [cps_app]; simp [strRep, List.replicate_succ])
theorem rep_zero (a : Str) : strRep a 0 = ("" : Str) := str_eq (by rw [empty_cps]; simp [strRep])
theorem one_len : (" " : Str).length = 1 := by decide +kernel
theorem join_cons (s x y : Str) (r : List Str) : Txt.join s (x :: y :: r) = x ++ s ++ Txt.join s (y :: r) := by rw [TL.join_eq, TL.join_eq]; rfl
theorem join_one' (s x : Str) : Txt.join s [x] = x := by rw [TL.join_eq]; rfl
theorem join_nil' (s : Str) : Txt.join s [] = Str.empty := by rw [TL.join_eq]; rfl
theorem fold_join (s : Str) : ∀ (l : List Str) (x : Str), l ≠ [] → l.foldl (fun acc n => acc ++ s ++ n) x = x ++ s ++ Txt.join s l
  | [], _, h => absurd rfl h
  | [n], x, _ => by rw [join_one']; rfl
  | n :: m :: r, x, _ => by
    rw [List.foldl_cons, fold_join s (m :: r) _ (by simp), join_cons]
    simp only [app_assoc]
theorem join_len (s : Str) (B : Nat) : ∀ l : List Str, (∀ x ∈ l, x.length ≤ B) → (Txt.join s l).length ≤ l.length * (B + s.length)
  | [], _ => by rw [join_nil']; exact Nat.zero_le _
  | [x], h => by rw [join_one']; have := h x (by simp); simp; omega
  | x :: y :: r, h => by
    rw [join_cons, len_app, len_app]
    have := join_len s B (y :: r) fun z hz => h z (by simp [hz])
    have := h x (by simp)
    simp only [List.length_cons] at *
    rw [Nat.succ_mul]; omega
theorem sum_len (B : Nat) : ∀ l : List Str, (∀ x ∈ l, x.length ≤ B) → (l.map (·.length)).sum ≤ l.length * B
  | [], _ => by simp
  | x :: r, h => by
    have := sum_len B r fun z hz => h z (by simp [hz])
    have := h x (by simp)
    simp only [List.map_cons, List.sum_cons, List.length_cons]
    rw [Nat.succ_mul]; omega
abbrev sI (i : Int) : Str := Str.ofString (toString i)
def nmL (ms : List Str) (hs : List Int) (h : Int) : List Str := ((List.range hs.length).filter fun k => decide (hs.getD k 0 = h)).map fun k => ms.getD k ""
def wd (hs : List Int) : Nat := (hs.map fun h => (sI h).length).foldl max 0
def lineF (w : Nat) (ms : List Str) (hs : List Int) (h : Int) : Str := strRep " " (w - (sI h).length) ++ sI h ++ " " ++ Txt.join " " (nmL ms hs h)
def gapF (w : Nat) (d : Int) : Str := strRep " " w ++ " | " ++ sI d
def pl (w : Nat) (ms : List Str) (hs : List Int) : Option Int → List Int → List Str
  | _, [] => []
  | none, h :: r => lineF w ms hs h :: pl w ms hs (some h) r
  | some b, h :: r => gapF w (b - h) :: lineF w ms hs h :: pl w ms hs (some h) r
/-- the levels, from above -/
structure Lv (hs ls : List Int) : Prop where
  p : ls.Pairwise (· > ·)
  m : ∀ z, z ∈ ls ↔ z ∈ hs
theorem lv_uniq : ∀ {as bs : List Int}, as.Pairwise (· > ·) → bs.Pairwise (· > ·) → (∀ z, z ∈ as ↔ z ∈ bs) → as = bs
  | [], [], _, _, _ => rfl
  | [], b :: bs, _, _, h => by have := (h b).mpr (by simp); simp at this
  | a :: as, [], _, _, h => by have := (h a).mp (by simp); simp at this
  | a :: as, b :: bs, pa, pb, h => by
    obtain ⟨a1, a2⟩ := List.pairwise_cons.mp pa
    obtain ⟨b1, b2⟩ := List.pairwise_cons.mp pb
    have e : a = b := by
      have h1 : a ∈ b :: bs := (h a).mp (by simp)
      have h2 : b ∈ a :: as := (h b).mpr (by simp)
      rcases List.mem_cons.mp h1 with e | h1
      · exact e
      · rcases List.mem_cons.mp h2 with e | h2
        · exact e.symm
        · have := b1 a h1; have := a1 b h2; omega
    subst e
    congr 1
    refine lv_uniq a2 b2 fun z => ⟨fun hz => ?_, fun hz => ?_⟩
    · rcases List.mem_cons.mp ((h z).mp (by simp [hz])) with e | q
      · have := a1 z hz; omega
      · exact q
    · rcases List.mem_cons.mp ((h z).mpr (by simp [hz])) with e | q
      · have := b1 z hz; omega
      · exact q
theorem foldl_max_ge : ∀ (l : List Nat) (a : Nat), a ≤ l.foldl max a ∧ (∀ x ∈ l, x ≤ l.foldl max a) ∧ (l.foldl max a = a ∨ l.foldl max a ∈ l)
  | [], a => ⟨Nat.le_refl _, by simp, .inl rfl⟩
  | x :: l, a => by
    obtain ⟨h1, h2, h3⟩ := foldl_max_ge l (max a x)
    rw [List.foldl_cons]
    refine ⟨by omega, fun y hy => ?_, ?_⟩
    · rcases List.mem_cons.mp hy with rfl | hy
      · omega
      · exact h2 y hy
    · rcases h3 with e | e
      · rw [e]
        by_cases hx : x ≤ a
        · left; omega
        · right; rw [Nat.max_eq_right (by omega)]; simp
      · exact .inr (List.mem_cons_of_mem _ e)
/-- the width, as the program tells it -/
theorem wd_max {hs : List Int} (hne : hs ≠ []) {z : Int} (h1 : ∃ h ∈ hs, z = ((sI h).length : Int)) (h2 : ∀ h ∈ hs, ((sI h).length : Int) ≤ z) : z = (wd hs : Int) := by
  obtain ⟨_, g2, g3⟩ := foldl_max_ge (hs.map fun h => (sI h).length) 0
  obtain ⟨h, hh, rfl⟩ := h1
  have a : (sI h).length ≤ wd hs := g2 _ (List.mem_map_of_mem hh)
  rcases g3 with e | e
  · have : wd hs = 0 := e
    omega
  · obtain ⟨h', hh', e'⟩ := List.mem_map.mp e
    have := h2 h' hh'
    have e2 : (sI h').length = wd hs := e'
    omega
def dNx (ms : List Str) (x : D) : D := .tup [.str "net", .tup (ms.map .str), x]
def rowD (x : Int × Addr) : D := .tup [.int x.1, .ref x.2]
def Sm (ms : List Str) (hs : List Int) : Prop := hs ≠ [] ∧ hs.length ≤ 10 ∧ ms.length = hs.length ∧ (∀ n ∈ ms, n.length ≤ 100) ∧ ∀ h ∈ hs, -(10 ^ 9) < h ∧ h < 10 ^ 9
def sp_rows_of : RC' := fun ds M Q => ∃ ms x hs, ds = [dNx ms x, dI hs] ∧ Sm ms hs ∧
  ∀ (ra : List (Int × Addr)) p M', Lv hs (ra.map (·.1)) → ra.length ≤ 10 → M.le M' → M' p = some (.lst (ra.map rowD)) → (∀ y ∈ ra, M' y.2 = some (.lst ((nmL ms hs y.1).map .str))) → Q (.ref p) M'
def sp_profile : RC' := fun ds M Q => ∃ ms x hs, ds = [dNx ms x, dI hs] ∧ Sm ms hs ∧ ∀ ls, Lv hs ls → Q (.str (Txt.join "" ((pl (wd hs) ms hs none ls).map (· ++ ("\n" : Str))))) M
def sp_law_lines : RC' := fun ds M Q => ∃ ms x hs, ds = [dNx ms x, dI hs] ∧ Sm ms hs ∧ ∀ ls p M', Lv hs ls → ls.length ≤ 10 → M.le M' → M' p = some (.lst ((pl (wd hs) ms hs none ls).map .str)) → Q (.ref p) M'
/-! rows_of: 0 net, 1 heights, 2 found, 3 height, 4 names, 5 k -/
def n_rows_of : List Str := ["net", "heights", "found", "height", "names", "k"]
/-- row 5 -/
def r_rows_of_2 : S' := seq' (fun Z ρ M => (var' 2) ρ M Z.rt) next'
/-- row 4 -/
def r_rows_of_4 : S' := seq' (fun Z ρ M => (meth' "list" mAppend (var' 2) (cons' (tup' (cons' (var' 3) (cons' (var' 4) nil'))) nil')) ρ M fun _ M1 => Z.nx ρ M1) next'
/-- row 3 -/
def r_rows_of_3 : S' := seq' (asg' (comp' (iRng1' (cons' (call' bLen (cons' (var' 1) nil')) nil')) (.one 5) [5] (tt' (b2' (rEq' false) (b2' rIx' (var' 1) (var' 5)) (var' 3))) (b2' rIx' (b2' rIx' (var' 0) (con' (.int 1))) (var' 5))) (gName' 4)) r_rows_of_4
/-- row 2 -/
def r_rows_of_1 : S' := seq' (for' (iRev' (sortedSet' (var' 1))) (gName' 3) r_rows_of_3) r_rows_of_2
/-- row 1 -/
def r_rows_of : S' := seq' (asg' (lst' nil') (gName' 2)) r_rows_of_1
/-! profile: 0 net, 1 heights, 2 rows, 3 wide, 4 height, 5 names, 6 lines, 7 before, 8 line -/
def n_profile : List Str := ["net", "heights", "rows", "wide", "height", "names", "lines", "before", "line"]
/-- row 10 -/
def r_profile_5 : S' := seq' (fun Z ρ M => (meth' "str" mJoin (con' (.str ("" : Str))) (cons' (comp' (iVal' (var' 6)) (.one 8) [8] yes' (b2' rAdd' (var' 8) (con' (.str ("\n" : Str))))) nil')) ρ M Z.rt) next'
/-- row 9 -/
def r_profile_8 : S' := seq' (asg' (var' 4) (gName' 7)) next'
/-- row 8 -/
def r_profile_7 : S' := seq' (fun Z ρ M => (meth' "list" mAppend (var' 6) (cons' (b2' rAdd' (b2' rAdd' (b2' rAdd' (b2' rMul' (con' (.str (" " : Str))) (b2' rSub' (var' 3) (call' bLen (cons' (call' bStr (cons' (var' 4) nil')) nil')))) (call' bStr (cons' (var' 4) nil'))) (con' (.str (" " : Str)))) (meth' "str" mJoin (con' (.str (" " : Str))) (cons' (var' 5) nil'))) nil')) ρ M fun _ M1 => Z.nx ρ M1) r_profile_8
/-- row 7 -/
def r_profile_9 : S' := seq' (fun Z ρ M => (meth' "list" mAppend (var' 6) (cons' (b2' rAdd' (b2' rAdd' (b2' rMul' (con' (.str (" " : Str))) (var' 3)) (con' (.str (" | " : Str)))) (call' bStr (cons' (b2' rSub' (var' 7) (var' 4)) nil'))) nil')) ρ M fun _ M1 => Z.nx ρ M1) next'
/-- row 6 -/
def r_profile_6 : S' := seq' (if' (tt' (b2' (rIs' true) (var' 7) (con' .non))) r_profile_9 next') r_profile_7
/-- row 5 -/
def r_profile_4 : S' := seq' (for' (iVal' (var' 2)) (gTup' 2 (gCons' (gName' 4) (gCons' (gName' 5) gNil'))) r_profile_6) r_profile_5
/-- row 4 -/
def r_profile_3 : S' := seq' (asg' (con' .non) (gName' 7)) r_profile_4
/-- row 3 -/
def r_profile_2 : S' := seq' (asg' (lst' nil') (gName' 6)) r_profile_3
/-- row 2 -/
def r_profile_1 : S' := seq' (asg' (call' bMax (cons' (comp' (iVal' (var' 2)) (.many [4, 5]) [4, 5] yes' (call' bLen (cons' (call' bStr (cons' (var' 4) nil')) nil'))) nil')) (gName' 3)) r_profile_2
/-- row 1 -/
def r_profile : S' := seq' (asg' (call' sp_rows_of (cons' (var' 0) (cons' (var' 1) nil'))) (gName' 2)) r_profile_1
/-! _law_lines: 0 _law_net, 1 _law_heights, 2 _law_left, 3 _law_wide, 4 _law_height, 5 _law_lines_here, 6 _law_before, 7 _law_other, 8 _law_k, 9 _law_line -/
def n_law_lines : List Str := ["_law_net", "_law_heights", "_law_left", "_law_wide", "_law_height", "_law_lines_here", "_law_before", "_law_other", "_law_k", "_law_line"]
/-- row 20 -/
def r_law_lines_6 : S' := seq' (fun Z ρ M => (var' 5) ρ M Z.rt) next'
/-- row 19 -/
def r_law_lines_14 : S' := seq' (asg' (var' 4) (gName' 6)) next'
/-- row 18 -/
def r_law_lines_13 : S' := seq' (fun Z ρ M => (meth' "list" mAppend (var' 5) (cons' (var' 9) nil')) ρ M fun _ M1 => Z.nx ρ M1) r_law_lines_14
/-- row 17 -/
def r_law_lines_16 : S' := seq' (asg' (b2' rAdd' (b2' rAdd' (var' 9) (con' (.str (" " : Str)))) (b2' rIx' (b2' rIx' (var' 0) (con' (.int 1))) (var' 8))) (gName' 9)) next'
/-- row 16 -/
def r_law_lines_15 : S' := seq' (if' (tt' (b2' (rEq' false) (b2' rIx' (var' 1) (var' 8)) (var' 4))) r_law_lines_16 next') next'
/-- row 15 -/
def r_law_lines_12 : S' := seq' (for' (iRng1' (cons' (call' bLen (cons' (var' 1) nil')) nil')) (gName' 8) r_law_lines_15) r_law_lines_13
/-- row 14 -/
def r_law_lines_17 : S' := seq' (asg' (b2' rAdd' (con' (.str (" " : Str))) (var' 9)) (gName' 9)) next'
/-- row 13 -/
def r_law_lines_11 : S' := seq' (whl' (tt' (b2' rLt' (call' bLen (cons' (var' 9) nil')) (var' 3))) r_law_lines_17) r_law_lines_12
/-- row 12 -/
def r_law_lines_10 : S' := seq' (asg' (call' bStr (cons' (var' 4) nil')) (gName' 9)) r_law_lines_11
/-- row 11 -/
def r_law_lines_18 : S' := seq' (fun Z ρ M => (meth' "list" mAppend (var' 5) (cons' (b2' rAdd' (b2' rAdd' (meth' "str" mJoin (con' (.str ("" : Str))) (cons' (comp' (iRng1' (cons' (var' 3) nil')) (.one 8) [8] yes' (con' (.str (" " : Str)))) nil')) (con' (.str (" | " : Str)))) (call' bStr (cons' (b2' rSub' (var' 6) (var' 4)) nil'))) nil')) ρ M fun _ M1 => Z.nx ρ M1) next'
/-- row 10 -/
def r_law_lines_9 : S' := seq' (if' (tt' (b2' (rIs' true) (var' 6) (con' .non))) r_law_lines_18 next') r_law_lines_10
/-- row 9 -/
def r_law_lines_8 : S' := seq' (asg' (comp' (iVal' (var' 2)) (.one 7) [7] (tt' (b2' (rEq' true) (var' 7) (var' 4))) (var' 7)) (gName' 2)) r_law_lines_9
/-- row 8 -/
def r_law_lines_7 : S' := seq' (asg' (call' bMax (cons' (var' 2) nil')) (gName' 4)) r_law_lines_8
/-- row 7 -/
def r_law_lines_5 : S' := seq' (whl' (tt' (var' 2)) r_law_lines_7) r_law_lines_6
/-- row 6 -/
def r_law_lines_4 : S' := seq' (asg' (con' .non) (gName' 6)) r_law_lines_5
/-- row 5 -/
def r_law_lines_3 : S' := seq' (asg' (lst' nil') (gName' 5)) r_law_lines_4
/-- row 4 -/
def r_law_lines_19 : S' := seq' (asg' (call' bMax (cons' (var' 3) (cons' (call' bLen (cons' (call' bStr (cons' (var' 4) nil')) nil')) nil'))) (gName' 3)) next'
/-- row 3 -/
def r_law_lines_2 : S' := seq' (for' (iVal' (var' 1)) (gName' 4) r_law_lines_19) r_law_lines_3
/-- row 2 -/
def r_law_lines_1 : S' := seq' (asg' (con' (.int 0)) (gName' 3)) r_law_lines_2
/-- row 1 -/
def r_law_lines : S' := seq' (asg' (call' bList (cons' (var' 1) nil')) (gName' 2)) r_law_lines_1
/-! law: 0 _law_script, 1 _law_box, 2 _law_turn, 3 _law_many, 4 _law_unit, 5 _law_heights, 6 _law_k, 7 _law_names, 8 _law_net, 9 _law_line -/
def n_law : List Str := ["_law_script", "_law_box", "_law_turn", "_law_many", "_law_unit", "_law_heights", "_law_k", "_law_names", "_law_net", "_law_line"]
/-- row 10 -/
def r_law_2 : S' := seq' (fun Z ρ M => (con' (.bl true)) ρ M Z.rt) next'
/-- row 9 -/
def r_law_9 : S' := seq' (fun Z ρ M => (con' (.bl false)) ρ M Z.rt) next'
/-- row 8 -/
def r_law_8 : S' := seq' (if' (tt' (b2' (rEq' true) (call' sp_profile (cons' (var' 8) (cons' (var' 5) nil'))) (meth' "str" mJoin (con' (.str ("" : Str))) (cons' (comp' (iVal' (call' sp_law_lines (cons' (var' 8) (cons' (var' 5) nil')))) (.one 9) [9] yes' (b2' rAdd' (var' 9) (con' (.str ("\n" : Str))))) nil')))) r_law_9 next') next'
/-- row 7 -/
def r_law_7 : S' := seq' (asg' (tup' (cons' (con' (.str ("net" : Str))) (cons' (call' bTuple (cons' (var' 7) nil')) (cons' (call' bTuple (cons' (comp' (iRng1' (cons' (b2' rSub' (var' 3) (con' (.int 1))) nil')) (.one 6) [6] yes' (tup' (cons' (var' 6) (cons' (b2' rAdd' (var' 6) (con' (.int 1))) (cons' (call' sp_law_draw (cons' (var' 1) (cons' (con' (.int 9)) nil'))) nil'))))) nil')) nil')))) (gName' 8)) r_law_8
/-- row 6 -/
def r_law_6 : S' := seq' (asg' (comp' (iRng1' (cons' (var' 3) nil')) (.one 6) [6] yes' (b2' rAdd' (call' sp_law_pick (cons' (var' 1) (cons' (lst' (cons' (con' (.str ("b" : Str))) (cons' (con' (.str ("at" : Str))) (cons' (con' (.str ("hill" : Str))) (cons' (con' (.str ("lake" : Str))) (cons' (con' (.str ("z" : Str))) nil')))))) nil'))) (b2' rIx' (con' (.str ("abcdefgh" : Str))) (var' 6)))) (gName' 7)) r_law_7
/-- row 5 -/
def r_law_5 : S' := seq' (asg' (b2' rAdd' (tup' (cons' (con' (.int 0)) nil')) (call' bTuple (cons' (comp' (iRng1' (cons' (b2' rSub' (var' 3) (con' (.int 1))) nil')) (.one 6) [6] yes' (b2' rMul' (b2' rSub' (call' sp_law_draw (cons' (var' 1) (cons' (con' (.int 9)) nil'))) (con' (.int 4))) (var' 4))) nil'))) (gName' 5)) r_law_6
/-- row 4 -/
def r_law_4 : S' := seq' (asg' (call' sp_law_pick (cons' (var' 1) (cons' (lst' (cons' (con' (.int 1)) (cons' (con' (.int 1)) (cons' (con' (.int 5)) (cons' (con' (.int 1000)) (cons' (con' (.int 99991)) nil')))))) nil'))) (gName' 4)) r_law_5
/-- row 3 -/
def r_law_3 : S' := seq' (asg' (b2' rAdd' (con' (.int 1)) (call' sp_law_draw (cons' (var' 1) (cons' (con' (.int 7)) nil')))) (gName' 3)) r_law_4
/-- row 2 -/
def r_law_1 : S' := seq' (for' (iRng1' (cons' (con' (.int 6)) nil')) (gName' 2) r_law_3) r_law_2
/-- row 1 -/
def r_law : S' := seq' (asg' (lst' (cons' (call' sp_law_digits (cons' (var' 0) (cons' (con' (.int 0)) (cons' (con' (.int 63)) nil')))) (cons' (con' (.int 0)) nil'))) (gName' 1)) r_law_1

theorem le_put {M M' : Mp} {p : Addr} {o : MO} (l : M.le M') (n : M p = none) : M.le (put M' p o) := fun c u e => by
  by_cases hc : c = p
  · rw [hc, n] at e; cases e
  · rw [put_ne hc]; exact l c u e
theorem nx1 {ms : List Str} {x : D} {M : Mp} {Q : Q1} : rIx' (dNx ms x) (.int 1) M Q = Q (.tup (ms.map .str)) M := by unfold dNx; walk_at "px"
theorem getI {l : List Int} {k : Nat} (h : k < l.length) : (l.map D.int)[k]? = some (.int (l.getD k 0)) := by rw [List.getElem?_map, getD_of h]; rfl
theorem atI_int {xs : List Int} {n : Nat} (hn : n < xs.length) : atI (xs.map D.int) (n : Int) = some (.int (xs.getD n 0)) := by
  rw [atI_nat, List.getElem?_map, getD_of hn]; rfl
theorem getS {ms : List Str} {k : Nat} (h : k < ms.length) : (ms.map D.str)[k]? = some (.str (ms.getD k "")) := by rw [List.getElem?_map, getD_of h]; rfl
theorem v_rows_of (ds M Q) (h : sp_rows_of ds M Q) : runR r_rows_of n_rows_of ds M Q := by
  obtain ⟨ms, x, hs, rfl, ⟨hne, hl, hml, hmn, hhs⟩, q⟩ := h
  unfold r_rows_of n_rows_of
  walk_at "px"
  intro p hp
  refine Fg.of ?_
  unfold r_rows_of_1
  walk_at "px"
  unfold sortedSet'
  walk_at "px"
  refine ⟨hs, rfl, by omega, fun ss c hpw hmem hsn hc => ⟨_, put_same, ?_⟩⟩
  have hpc : p ≠ c := ne_new put_same hc
  have hcM : M c = none := by rw [put_ne hpc.symm] at hc; exact hc
  have lv : Lv hs ss.reverse := ⟨by rw [List.pairwise_reverse]; exact hpw, fun z => by rw [List.mem_reverse]; exact hmem z⟩
  rw [← List.map_reverse]
  have l0 : M.le (put (put M p (.lst [])) c (.lst (ss.map .int))) := (Mp.le.new hp).trans (Mp.le.new hc)
  have m0 : put (put M p (.lst [])) c (.lst (ss.map .int)) p = some (.lst (([] : List (Int × Addr)).map rowD)) := (put_ne hpc).trans put_same
  have mc : put (put M p (.lst [])) c (.lst (ss.map .int)) c = some (.lst (ss.map .int)) := put_same
  generalize put (put M p (.lst [])) c (.lst (ss.map .int)) = M1 at *
  have hsl : ss.reverse.length ≤ 100 := by rw [List.length_reverse]; omega
  refine wFor_ind (fun rest ρ M' => ∃ (ra : List (Int × Addr)) (ls : List Int), ss.reverse = ra.map (·.1) ++ ls ∧ rest = ls.map .int ∧ ρ = [some (dNx ms x), some (.tup (hs.map .int)), some (.ref p), none, none, none] ∧
    M.le M' ∧ M' c = some (.lst (ss.map .int)) ∧ M' p = some (.lst (ra.map rowD)) ∧ ∀ y ∈ ra, y.2 ≠ p ∧ M' y.2 = some (.lst ((nmL ms hs y.1).map .str))) ?_ ?_ _ _ _ ⟨[], ss.reverse, rfl, rfl, rfl, l0, mc, m0, by simp⟩
  · rintro d xs ρ M' R ⟨ra, ls, hsp, hx, rfl, l, mc, mp, hra⟩ hR
    refine ⟨⟨mc, trivial⟩, ?_⟩
    cases ls with
    | nil => simp at hx
    | cons h ls =>
    simp only [List.map_cons, List.cons.injEq] at hx
    obtain ⟨rfl, rfl⟩ := hx
    show r_rows_of_3 _ _ _
    walk_at "px"
    unfold r_rows_of_3
    walk_at "px"
    rw [List.length_map, Int.toNat_natCast]
    refine ⟨by unfold small62; omega, fun e he => ?_⟩
    refine comp_map (y := []) _ (fun (k : Nat) => .str (ms.getD k "")) (fun k => decide (hs.getD k 0 = h)) he trivial _ [] (by rw [List.length_range]; exact sz (by simp; omega)) (fun k hk => ⟨_, rfl, fun M2 hl => ⟨fun Q hQ => ?_, fun _ Q hQ => ?_⟩⟩) ?_
    · have hk' : k < hs.length := by simpa using hk
      walk_at "px"
      simp only [Int.zero_add]
      walk_at "px"
      refine ⟨_, getI hk', ?_⟩
      walk_at "px"
      exact hQ _ Mp.le.refl
    · have hk' : k < hs.length := by simpa using hk
      walk_at "px"
      rw [nx1]
      simp only [Int.zero_add]
      walk_at "px"
      exact ⟨_, getS (by omega), hQ _ Mp.le.refl⟩
    have en : ((List.range hs.length).filter fun k => decide (hs.getD k 0 = h)).map (fun (k : Nat) => D.str (ms.getD k "")) = (nmL ms hs h).map .str := by
      unfold nmL; rw [List.map_map]; rfl
    rw [List.nil_append, en]
    have hep : p ≠ e := ne_new mp he
    have hec : c ≠ e := ne_new mc he
    refine Fg.of ?_
    unfold r_rows_of_4
    walk_at "px"
    refine ⟨.inl ⟨rfl, _, (put_ne hep).trans mp⟩, _, (put_ne hep).trans mp, ?_, ?_⟩
    · have : ra.length ≤ 100 := by
        have := congrArg List.length hsp
        simp only [List.length_append, List.length_map, List.length_cons] at this
        omega
      rw [List.length_map]; exact Nat.lt_of_le_of_lt this (by decide)
    have er : ra.map rowD ++ [D.tup [.int h, .ref e]] = (ra ++ [(h, e)]).map rowD := by simp [rowD]
    rw [er]
    refine ⟨[some (dNx ms x), some (.tup (hs.map .int)), some (.ref p), none, none, none], _, .keep (.keep (.keep (.drop (.drop (.keep .nil))))), Mp.le.refl, hR _ _ ⟨ra ++ [(h, e)], ls, by rw [hsp]; simp, rfl, rfl, le_put (le_put l (by
        cases q : M e with
        | none => rfl
        | some o => rw [l e o q] at he; cases he)) hp, ?_, put_same, fun y hy => ?_⟩⟩
    · rw [put_ne hpc.symm, put_ne hec]; exact mc
    · rcases List.mem_append.mp hy with hy | hy
      · obtain ⟨h1, h2⟩ := hra y hy
        refine ⟨h1, ?_⟩
        rw [put_ne h1, put_ne (ne_new h2 he)]; exact h2
      · rw [List.mem_singleton.mp hy]
        exact ⟨hep.symm, by rw [put_ne hep.symm]; exact put_same⟩
  · rintro ρ M' ⟨ra, ls, hsp, hx, rfl, l, mc, mp, hra⟩
    have : ls = [] := by simpa using hx.symm
    subst this
    rw [List.append_nil] at hsp
    refine ⟨⟨mc, trivial⟩, Fg.of ?_⟩
    unfold r_rows_of_2
    walk_at "px"
    have hrl : ra.length ≤ 10 := by
      have := congrArg List.length hsp
      simp only [List.length_reverse, List.length_map] at this
      omega
    exact Up.of (q ra p M' (hsp ▸ lv) hrl l mp fun y hy => (hra y hy).2)
/-- what stands ahead is told -/
def gl (w : Nat) (ms : List Str) (hs : List Int) (b : Option Int) (h : Int) : List Str := match b with
  | none => [lineF w ms hs h]
  | some d => [gapF w (d - h), lineF w ms hs h]
theorem pl_cons {w : Nat} {ms : List Str} {hs : List Int} {b : Option Int} {h : Int} {r : List Int} : pl w ms hs b (h :: r) = gl w ms hs b h ++ pl w ms hs (some h) r := by cases b <;> rfl
def bD (b : Option Int) : D := match b with
  | none => .non
  | some d => .int d
theorem sI_len {h : Int} (k : -(10 ^ 10) < h ∧ h < 10 ^ 10) : (sI h).length ≤ 20 := len_int (by omega)
theorem wd_le {hs : List Int} (h : ∀ z ∈ hs, -(10 ^ 9) < z ∧ z < 10 ^ 9) : wd hs ≤ 20 := by
  obtain ⟨_, _, g3⟩ := foldl_max_ge (hs.map fun h => (sI h).length) 0
  rcases g3 with e | e
  · have : wd hs = 0 := e
    omega
  · obtain ⟨z, hz, e'⟩ := List.mem_map.mp e
    have := sI_len (h := z) (by have := h z hz; omega)
    have e2 : (sI z).length = wd hs := e'
    omega
theorem log_small {h : Int} (k : -(10 ^ 10) < h ∧ h < 10 ^ 10) : h.natAbs.log2 < 1920 := by
  by_cases h0 : h.natAbs = 0
  · rw [h0]; decide
  · exact Nat.lt_of_lt_of_le ((Nat.log2_lt h0).mpr (Nat.lt_of_lt_of_le (show h.natAbs < 10 ^ 10 by omega) (show 10 ^ 10 ≤ 2 ^ 60 by decide))) (by decide)
theorem nmL_len {ms : List Str} {hs : List Int} {h : Int} : (nmL ms hs h).length ≤ hs.length := by
  unfold nmL
  rw [List.length_map]
  refine Nat.le_trans (List.length_filter_le _ _) ?_
  rw [List.length_range]; exact Nat.le_refl _
theorem nmL_mem {ms : List Str} {hs : List Int} {h : Int} (k : ∀ n ∈ ms, n.length ≤ 100) : ∀ n ∈ nmL ms hs h, n.length ≤ 100 := by
  intro n hn
  unfold nmL at hn
  obtain ⟨i, hi, rfl⟩ := List.mem_map.mp hn
  by_cases h : i < ms.length
  · exact k _ (List.mem_of_getElem? (getD_of h))
  · rw [List.getD_eq_getElem?_getD, List.getElem?_eq_none (by omega)]
    show ("" : Str).length ≤ 100
    decide +kernel
theorem nj_len {ms : List Str} {hs : List Int} {h : Int} (k : ∀ n ∈ ms, n.length ≤ 100) (hl : hs.length ≤ 10) : (Txt.join " " (nmL ms hs h)).length ≤ 1010 := by
  refine Nat.le_trans (join_len " " 100 _ (nmL_mem k)) ?_
  rw [one_len]
  have := nmL_len (ms := ms) (hs := hs) (h := h)
  have : (nmL ms hs h).length * (100 + 1) ≤ 10 * 101 := Nat.mul_le_mul (by omega) (by omega)
  omega
theorem szS {n : Nat} (h : n ≤ 100000) : n ≤ sizeLine := sz h
theorem line_len {ms : List Str} {hs : List Int} {h : Int} {w : Nat} (hl : hs.length ≤ 10) (hmn : ∀ n ∈ ms, n.length ≤ 100) (hw : w ≤ 20) (hh : -(10 ^ 9) < h ∧ h < 10 ^ 9) : (lineF w ms hs h).length ≤ 1200 := by
  have e20 : (sI h).length ≤ 20 := sI_len (by omega)
  have nj := nj_len (ms := ms) (hs := hs) (h := h) hmn hl
  unfold lineF
  rw [len_app, len_app, len_app, len_rep, one_len]; omega
theorem gap_len {w : Nat} {d : Int} (hw : w ≤ 20) (hd : -(10 ^ 10) < d ∧ d < 10 ^ 10) : (gapF w d).length ≤ 1200 := by
  have e20 : (sI d).length ≤ 20 := sI_len hd
  have e3 : (" | " : Str).length = 3 := by decide +kernel
  unfold gapF
  rw [len_app, len_app, len_rep, one_len, e3]; omega
theorem pl_bound {ms : List Str} {hs : List Int} {w : Nat} (hl : hs.length ≤ 10) (hmn : ∀ n ∈ ms, n.length ≤ 100) (hw : w ≤ 20) : ∀ (ls : List Int) (b : Option Int), (∀ h ∈ ls, -(10 ^ 9) < h ∧ h < 10 ^ 9) → (∀ d, b = some d → -(10 ^ 9) < d ∧ d < 10 ^ 9) →
    (∀ z ∈ pl w ms hs b ls, z.length ≤ 1200) ∧ (pl w ms hs b ls).length ≤ 2 * ls.length
  | [], b, _, _ => by cases b <;> simp [pl]
  | h :: r, b, k, kb => by
    obtain ⟨i1, i2⟩ := pl_bound hl hmn hw r (some h) (fun z hz => k z (by simp [hz])) fun d hd => by cases hd; exact k h (by simp)
    have kh := k h (by simp)
    have l1 := line_len (ms := ms) (h := h) hl hmn hw kh
    cases b with
    | none =>
      refine ⟨fun z hz => ?_, by simp [pl]; omega⟩
      simp only [pl, List.mem_cons] at hz
      rcases hz with rfl | hz
      · exact l1
      · exact i1 z hz
    | some d =>
      have kd := kb d rfl
      refine ⟨fun z hz => ?_, by simp [pl]; omega⟩
      simp only [pl, List.mem_cons] at hz
      rcases hz with rfl | rfl | hz
      · exact gap_len hw (by omega)
      · exact l1
      · exact i1 z hz
/-- the lines, each with its end, joined -/
theorem x_lines {c : Addr} {own : List Nat} {M : Mp} {l : Addr} {L : List Str} {i : Nat} {te : E'} {ρ : Rho} {Q : Q1} (hc : M c = none) (ml : M l = some (.lst (L.map .str))) (hL : ∀ z ∈ L, z.length ≤ 1200) (hn : L.length ≤ 100)
    (ht : ∀ z, z ∈ L → ∀ M1, M.le M1 → Gv te ((wipeD ρ own).set i (some (.str z))) M1 (.str (z ++ ("\n" : Str))))
    (q : ∀ M1, M.le M1 → Q (.str (Txt.join "" (L.map (· ++ ("\n" : Str))))) M1) :
    wComp [(l, L.map .str)] (.one i) own yes' te c ρ (fun x M1 => mJoin (.str ("" : Str)) [x] M1 Q) (L.map .str) [] (put M c (.lst [])) := by
  have e1 : ("\n" : Str).length = 1 := by decide +kernel
  refine comp_all (y := [(l, L.map .str)]) D.str (fun z => .str (z ++ ("\n" : Str))) hc ⟨ml, trivial⟩ (sz (by omega)) (fun z hz => ⟨_, rfl, fun M1 hl => ht z hz M1 hl⟩) ?_
  refine ⟨L.map (· ++ ("\n" : Str)), by show put M c _ c = _; rw [put_same, List.map_map]; rfl, ?_, q _ (Mp.le.new hc)⟩
  have h1 := sum_len 1201 (L.map (· ++ ("\n" : Str))) fun z hz => by
    obtain ⟨y, hy, rfl⟩ := List.mem_map.mp hz
    have := hL y hy
    rw [len_app, e1]; omega
  have h2 : ("" : Str).length = 0 := by decide +kernel
  rw [List.length_map] at h1 ⊢
  rw [h2]
  have : L.length * 1201 ≤ 100 * 1201 := Nat.mul_le_mul_right _ hn
  omega
theorem v_profile (ds M Q) (h : sp_profile ds M Q) : runR r_profile n_profile ds M Q := by
  obtain ⟨ms, x, hs, rfl, sm, q⟩ := h
  obtain ⟨hne, hl, hml, hmn, hhs⟩ := sm
  unfold r_profile n_profile
  walk_at "px"
  refine ⟨ms, x, hs, rfl, ⟨hne, hl, hml, hmn, hhs⟩, fun ra p M' lv hrl lM mp hra => Fg.of ?_⟩
  have hin : ∀ y ∈ ra, y.1 ∈ hs := fun y hy => (lv.m y.1).mp (List.mem_map_of_mem hy)
  have hrn : ra ≠ [] := by
    rintro rfl
    obtain ⟨z, hz⟩ := List.exists_mem_of_ne_nil hs hne
    have := (lv.m z).mpr hz
    simp at this
  unfold r_profile_1
  walk_at "px"
  refine ⟨_, mp, fun c hc => ?_⟩
  refine comp_all (y := [(p, ra.map rowD)]) rowD (fun y => .int ((sI y.1).length : Nat)) hc ⟨mp, trivial⟩ (sz (by omega)) (fun y hy => ⟨_, rfl, fun M2 hl Q hQ => ?_⟩) ?_
  · have hy' := hhs _ (hin y hy)
    walk_at "px"
    refine ⟨log_small (by omega), ?_⟩
    have e : (Str.ofString (toString y.1)).length ≤ 20 := sI_len (by omega)
    exact ⟨szS (by omega), hQ _ Mp.le.refl⟩
  refine ⟨ra.map fun y => ((sI y.1).length : Int), by simp [put_same, Function.comp_def], by simpa using List.length_pos_iff.mpr hrn, fun z hz hzm => ?_⟩
  have hw : z = (wd hs : Int) := by
    refine wd_max hne ?_ fun h hh => ?_
    · obtain ⟨y, hy, rfl⟩ := List.mem_map.mp hz
      exact ⟨y.1, hin y hy, rfl⟩
    · obtain ⟨y, hy, e⟩ := List.mem_map.mp ((lv.m h).mpr hh)
      rw [← e]
      exact hzm _ (List.mem_map_of_mem (f := fun (y : Int × Addr) => ((sI y.1).length : Int)) hy)
  subst hw
  have hw20 := wd_le hhs
  refine ⟨_, M', Rle.refl, Mp.le.new hc, ?_⟩
  unfold r_profile_2
  walk_at "px"
  intro l hl0
  refine Fg.of ?_
  have hpl : p ≠ l := ne_new mp hl0
  have ral : ∀ y ∈ ra, y.2 ≠ l := fun y hy => ne_new (hra y hy) hl0
  unfold r_profile_3
  walk_at "px"
  refine Fg.of ?_
  unfold r_profile_4
  walk_at "px"
  refine ⟨_, (put_ne hpl).trans mp, ?_⟩
  let sl (b : Option Int) : Rho := [some (dNx ms x), some (.tup (hs.map .int)), some (.ref p), some (.int (wd hs)), none, none, some (.ref l), some (bD b), none]
  refine wFor_ind (fun rest ρ M2 => ∃ (done todo : List (Int × Addr)) (b : Option Int) (sofar : List Str), ra = done ++ todo ∧ rest = todo.map rowD ∧ ρ = sl b ∧ (∀ d, b = some d → d ∈ hs) ∧
    M2 = put M' l (.lst (sofar.map .str)) ∧ sofar.length ≤ 2 * done.length ∧ sofar ++ pl (wd hs) ms hs b (todo.map (·.1)) = pl (wd hs) ms hs none (ra.map (·.1))) ?_ ?_ _ _ _ ⟨[], ra, none, [], rfl, rfl, rfl, by simp, rfl, by simp, rfl⟩
  · rintro d xs ρ M2 R ⟨done, todo, b, sofar, hsp, hx, rfl, hb, rfl, hsl, hpl2⟩ hR
    refine ⟨⟨(put_ne hpl).trans mp, trivial⟩, ?_⟩
    cases todo with
    | nil => simp at hx
    | cons y todo =>
    simp only [List.map_cons, List.cons.injEq] at hx
    obtain ⟨rfl, rfl⟩ := hx
    have hy : y ∈ ra := by rw [hsp]; simp
    have hyh := hhs _ (hin y hy)
    have hdl : done.length ≤ 100 := by have := congrArg List.length hsp; simp at this; omega
    have ml : ∀ X, put M' l (.lst X) y.2 = some (.lst ((nmL ms hs y.1).map .str)) := fun X => (put_ne (ral y hy)).trans (hra y hy)
    have e20 : (sI y.1).length ≤ 20 := sI_len (by omega)
    -- the line, the end of the turn
    have go : ∀ sofar2 : List Str, sofar2.length ≤ 2 * done.length + 1 → sofar2 ++ (lineF (wd hs) ms hs y.1 :: pl (wd hs) ms hs (some y.1) (todo.map (·.1))) = pl (wd hs) ms hs none (ra.map (·.1)) →
        r_profile_7 { nx := R, rt := Up Q, bk := Fg (r_profile_5 { nx := fun _ M' => Up Q .non M', rt := Up Q }), ct := R }
          [some (dNx ms x), some (.tup (hs.map .int)), some (.ref p), some (.int (wd hs)), some (.int y.1), some (.ref y.2), some (.ref l), some (bD b), none] (put M' l (.lst (sofar2.map .str))) := by
      intro sofar2 h1 h2
      unfold r_profile_7
      walk_at "px"
      refine ⟨ty_lst, log_small (by omega), ?_⟩
      have e : (Str.ofString (toString y.1)).length = (sI y.1).length := rfl
      refine ⟨szS (by omega), trivial, by omega, by omega, by rw [one_len, e]; omega, log_small (by omega), ?_⟩
      have et : ((wd hs : Int) - ((Str.ofString (toString y.1)).length : Int)).toNat = wd hs - (sI y.1).length := by omega
      rw [et]
      walk_at "px"
      rw [len_rep, one_len]
      have nj := nj_len (ms := ms) (hs := hs) (h := y.1) hmn hl
      refine ⟨szS (by omega), szS (by rw [len_app, len_rep, one_len]; omega), rfl, nmL ms hs y.1, ml _, ?_, ?_⟩
      · have h1 := sum_len 100 _ (nmL_mem (ms := ms) (hs := hs) (h := y.1) hmn)
        have h2 := nmL_len (ms := ms) (hs := hs) (h := y.1)
        rw [one_len]
        omega
      walk_at "px"
      refine ⟨szS (by rw [len_app, len_app, len_rep, one_len]; omega), _, put_same, ?_, ?_⟩
      · rw [List.length_map]; exact Nat.lt_of_le_of_lt (show sofar2.length ≤ 1000 by omega) (by decide)
      rw [put_put]
      have ef : strRep " " (wd hs - (sI y.1).length) ++ Str.ofString (toString y.1) ++ (" " : Str) ++ Txt.join " " (nmL ms hs y.1) = lineF (wd hs) ms hs y.1 := rfl
      rw [ef]
      have el : sofar2.map D.str ++ [D.str (lineF (wd hs) ms hs y.1)] = (sofar2 ++ [lineF (wd hs) ms hs y.1]).map .str := by simp
      rw [el]
      refine Fg.of ?_
      unfold r_profile_8
      walk_at "px"
      refine ⟨sl (some y.1), _, .keep (.keep (.keep (.keep (.drop (.drop (.keep (.keep (.keep .nil)))))))), Mp.le.refl, hR _ _ ⟨done ++ [y], todo, some y.1, sofar2 ++ [lineF (wd hs) ms hs y.1], by rw [hsp]; simp, rfl, rfl, fun d hd => by cases hd; exact hin y hy, rfl, by simp; omega, ?_⟩⟩
      rw [List.append_assoc]; exact h2
    unfold rowD
    simp only [sl]
    walk_at "px"
    unfold r_profile_6
    walk_at "px"
    cases b with
    | none =>
      rw [if_neg (by decide)]
      exact Fg.of (go sofar (by omega) hpl2)
    | some d =>
      have hdh := hhs d (hb d rfl)
      rw [if_pos (show isN (bD (some d)) = false from rfl)]
      unfold r_profile_9
      walk_at "px"
      refine ⟨ty_lst, by omega, by omega, by rw [one_len]; omega, ?_⟩
      rw [Int.toNat_natCast]
      have e3 : (" | " : Str).length = 3 := by decide +kernel
      refine ⟨szS (by rw [len_rep, one_len, e3]; omega), ?_⟩
      show rSub' (.int d) _ _ _
      walk_at "px"
      refine ⟨log_small (by omega), ?_⟩
      have e20' : (sI (d - y.1)).length ≤ 20 := sI_len (by omega)
      have e20'' : (Str.ofString (toString (d - y.1))).length ≤ 20 := e20'
      walk_at "px"
      refine ⟨szS (by rw [len_app, len_rep, one_len, e3]; omega), _, put_same, ?_, ?_⟩
      · rw [List.length_map]; exact Nat.lt_of_le_of_lt (show sofar.length ≤ 1000 by omega) (by decide)
      rw [put_put]
      have ef : strRep " " (wd hs) ++ (" | " : Str) ++ Str.ofString (toString (d - y.1)) = gapF (wd hs) (d - y.1) := rfl
      rw [ef]
      have el : sofar.map D.str ++ [D.str (gapF (wd hs) (d - y.1))] = (sofar ++ [gapF (wd hs) (d - y.1)]).map .str := by simp
      rw [el]
      exact Fg.of (Fg.of (go (sofar ++ [gapF (wd hs) (d - y.1)]) (by simp; omega) (by rw [← hpl2]; simp [pl])))
  · rintro ρ M2 ⟨done, todo, b, sofar, hsp, hx, rfl, hb, rfl, hsl, hpl2⟩
    have : todo = [] := by simpa using hx.symm
    subst this
    have e0 : pl (wd hs) ms hs b (([] : List (Int × Addr)).map (·.1)) = [] := by cases b <;> rfl
    rw [e0, List.append_nil] at hpl2
    refine ⟨⟨(put_ne hpl).trans mp, trivial⟩, Fg.of ?_⟩
    simp only [sl]
    unfold r_profile_5
    walk_at "px"
    refine ⟨rfl, _, put_same, fun c2 hc2 => ?_⟩
    have tot := hpl2
    have pb := pl_bound (ms := ms) hl hmn hw20 (ra.map (·.1)) none (fun h hh => hhs h ((lv.m h).mp hh)) (by simp)
    rw [← tot] at pb
    refine x_lines hc2 put_same pb.1 (by have := pb.2; simp at this; omega) (fun z hz M1 hM Q hQ => ?_) fun M1 hM => ?_
    · walk_at "px"
      refine ⟨szS ?_, hQ _ Mp.le.refl⟩
      have := pb.1 z hz
      have e1 : ("\n" : Str).length = 1 := by decide +kernel
      rw [e1]; omega
    · have q' := q _ lv
      rw [← tot] at q'
      refine Up.le ?_ q'
      have lM' : M.le (put M' l (.lst (sofar.map .str))) := le_put lM (by
        cases qm : M l with
        | none => rfl
        | some o => rw [lM l o qm] at hl0; cases hl0)
      exact lM'.trans hM
def lb (b : Option Int) (as : List Int) : Option Int := as.foldl (fun _ h => some h) b
theorem pl_snoc {w : Nat} {ms : List Str} {hs : List Int} {h : Int} : ∀ (as : List Int) (b : Option Int), pl w ms hs b (as ++ [h]) = pl w ms hs b as ++ gl w ms hs (lb b as) h
  | [], b => by cases b <;> rfl
  | a :: r, b => by
    rw [List.cons_append, pl_cons, pl_cons, pl_snoc r (some a), List.append_assoc]; rfl
theorem truL {M : Mp} {a : Addr} {xs : List D} (h : M a = some (.lst xs)) : truD M (.ref a) = some (!xs.isEmpty) := by simp only [truD, h]
theorem join_rep : ∀ n, Txt.join "" (List.replicate n (" " : Str)) = strRep " " n
  | 0 => by rw [List.replicate_zero, join_nil', rep_zero]; rfl
  | 1 => by
    rw [List.replicate_one, join_one', rep_succ, rep_zero, app_nil]
  | n + 2 => by
    rw [List.replicate_succ, List.replicate_succ, join_cons, ← List.replicate_succ, join_rep (n + 1), rep_succ " " (n + 1), app_nil]
theorem fold_len (B : Nat) : ∀ (l : List Str) (x : Str), (∀ n ∈ l, n.length ≤ B) → (l.foldl (fun acc n => acc ++ (" " : Str) ++ n) x).length ≤ x.length + l.length * (B + 1)
  | [], x, _ => by simp
  | n :: l, x, h => by
    rw [List.foldl_cons]
    have := fold_len B l (x ++ " " ++ n) fun m hm => h m (by simp [hm])
    have := h n (by simp)
    rw [len_app, len_app, one_len] at *
    rw [List.length_cons, Nat.succ_mul]; omega
theorem max_fold (l : List Int) : ∀ (a : Nat), ((l.map fun h => (sI h).length).foldl max a : Nat) = l.foldl (fun m h => max m (sI h).length) a := by
  induction l with
  | nil => intro a; rfl
  | cons h l ih => intro a; rw [List.map_cons, List.foldl_cons, List.foldl_cons, ih]
theorem x_max2 {i j : Int} {M : Mp} {Q : Q1} : bMax [.int i, .int j] M Q = Q (.int (if j > i then j else i)) M := rfl
theorem v_law_lines (ds M Q) (h : sp_law_lines ds M Q) : runR r_law_lines n_law_lines ds M Q := by
  obtain ⟨ms, x, hs, rfl, ⟨hne, hl, hml, hmn, hhs⟩, q⟩ := h
  have hw20 := wd_le hhs
  have e3 : (" | " : Str).length = 3 := by decide +kernel
  have e0 : ("" : Str).length = 0 := by decide +kernel
  unfold r_law_lines n_law_lines
  walk_at "px"
  intro A0 hA0
  refine Fg.of ?_
  unfold r_law_lines_1
  walk_at "px"
  refine Fg.of ?_
  have mA0 : put M A0 (.lst (hs.map .int)) A0 = some (.lst (hs.map .int)) := put_same
  have lA0 : M.le (put M A0 (.lst (hs.map .int))) := Mp.le.new hA0
  generalize put M A0 (.lst (hs.map .int)) = M1 at *
  -- behind the width
  have rest : r_law_lines_3 { nx := fun _ M' => Up Q .non M', rt := Up Q } [some (dNx ms x), some (.tup (hs.map .int)), some (.ref A0), some (.int (wd hs)), none, none, none, none, none, none] M1 := by
    unfold r_law_lines_3
    walk_at "px"
    intro l hl0
    refine Fg.of ?_
    have hAl : A0 ≠ l := ne_new mA0 hl0
    have nlM : M l = none := by
      cases qm : M l with
      | none => rfl
      | some o => rw [lA0 l o qm] at hl0; cases hl0
    unfold r_law_lines_4
    walk_at "px"
    refine Fg.of ?_
    unfold r_law_lines_5
    walk_at "px"
    let sl (A : Addr) (b : Option Int) : Rho := [some (dNx ms x), some (.tup (hs.map .int)), some (.ref A), some (.int (wd hs)), none, some (.ref l), some (bD b), none, none, none]
    refine ⟨fun m ρ M2 => ∃ (left : List Int) (A : Addr) (done : List Int), left.length = m ∧ ρ = sl A (lb none done) ∧ M.le M2 ∧ M2 A = some (.lst (left.map .int)) ∧ M2 l = some (.lst ((pl (wd hs) ms hs none done).map .str)) ∧ A ≠ l ∧
      done.Pairwise (· > ·) ∧ (∀ z ∈ hs, z ∈ left ∨ z ∈ done) ∧ (∀ z ∈ left, z ∈ hs ∧ ∀ d ∈ done, z < d) ∧ (∀ d ∈ done, d ∈ hs) ∧ done.length + left.length ≤ hs.length ∧ (∀ d, lb none done = some d → d ∈ hs), ⟨hs.length, hs, A0, [], rfl, rfl, lA0.trans (Mp.le.new hl0), (put_ne hAl).trans mA0, put_same, hAl, by simp, fun z hz => .inl hz, fun z hz => ⟨hz, by simp⟩, by simp, by simp, by simp [lb]⟩, ?_⟩
    rintro m ρ M2 ⟨left, A, done, rfl, rfl, lM, mA, ml, hAl, hpw, hcov, hlt, hdn, hlen, hlb⟩
    simp only [sl]
    walk_at "px"
    refine ⟨_, truL mA, ?_⟩
    cases left with
    | nil =>
      rw [if_neg (by decide)]
      refine Fg.of ?_
      unfold r_law_lines_6
      walk_at "px"
      exact Up.of (q done l M2 ⟨hpw, fun z => ⟨hdn z, fun hz => (hcov z hz).resolve_left (by simp)⟩⟩ (by omega) lM ml)
    | cons u us =>
    rw [if_pos (show (!(List.map D.int (u :: us)).isEmpty) = true from rfl)]
    generalize hle : (u :: us) = left at *
    have hln : 0 < left.length := by rw [← hle]; simp
    clear hle
    unfold r_law_lines_7
    walk_at "px"
    refine ⟨left, mA, hln, fun h hh hmx => Fg.of ?_⟩
    have hhh := hhs h (hlt h hh).1
    have e20 : (sI h).length ≤ 20 := sI_len (by omega)
    unfold r_law_lines_8
    walk_at "px"
    refine ⟨_, mA, fun A1 hA1 => ?_⟩
    refine comp_map (y := [(A, left.map .int)]) D.int D.int (fun z => !decide (z = h)) hA1 ⟨mA, trivial⟩ left [] (by have := sz (n := left.length) (by omega); simpa using this) (fun z hz => ⟨_, rfl, fun M3 hl => ⟨fun Q hQ => ?_, fun _ Q hQ => ?_⟩⟩) ?_
    · walk_at "px"
      exact hQ _ Mp.le.refl
    · walk_at "px"
      exact hQ _ Mp.le.refl
    rw [List.nil_append]
    have hlA1 : l ≠ A1 := ne_new ml hA1
    have nA1 : M A1 = none := by
      cases qm : M A1 with
      | none => rfl
      | some o => rw [lM A1 o qm] at hA1; cases hA1
    replace lM := le_put (o := .lst ((left.filter fun z => !decide (z = h)).map .int)) lM nA1
    have mA' : put M2 A1 (.lst ((left.filter fun z => !decide (z = h)).map .int)) A1 = some (.lst ((left.filter fun z => !decide (z = h)).map .int)) := put_same
    replace ml : put M2 A1 (.lst ((left.filter fun z => !decide (z = h)).map .int)) l = _ := (put_ne hlA1).trans ml
    generalize put M2 A1 (.lst ((left.filter fun z => !decide (z = h)).map .int)) = M3 at *
    refine Fg.of ?_
    have hpb := pl_bound (ms := ms) hl hmn hw20 done none (fun z hz => hhs z (hdn z hz)) (by simp)
    have hdl : done.length ≤ 10 := by omega
    -- the line
    have go : ∀ (sofar : List Str) (M4 : Mp) (Z : Ends'), sofar.length ≤ 100 → M.le M4 → M4 A1 = some (.lst ((left.filter fun z => !decide (z = h)).map .int)) → M4 l = some (.lst (sofar.map .str)) →
        (∀ ρ M5, M.le M5 → M5 A1 = some (.lst ((left.filter fun z => !decide (z = h)).map .int)) → M5 l = some (.lst ((sofar ++ [lineF (wd hs) ms hs h]).map .str)) → ρ = sl A1 (some h) → Z.nx ρ M5) →
        r_law_lines_10 Z [some (dNx ms x), some (.tup (hs.map .int)), some (.ref A1), some (.int (wd hs)), some (.int h), some (.ref l), some (bD (lb none done)), none, none, none] M4 := by
      intro sofar M4 Z h1 h2 h3 h4 hZ
      generalize bD (lb none done) = bb
      unfold r_law_lines_10
      walk_at "px"
      refine ⟨log_small (by omega), Fg.of ?_⟩
      unfold r_law_lines_11
      walk_at "px"
      refine ⟨fun m ρ M5 => ∃ t, m + t = wd hs - (sI h).length ∧ M5 = M4 ∧ ρ = [some (dNx ms x), some (.tup (hs.map .int)), some (.ref A1), some (.int (wd hs)), some (.int h), some (.ref l), some bb, none, none, some (.str (strRep " " t ++ sI h))],
        ⟨wd hs - (sI h).length, 0, rfl, rfl, by rw [rep_zero, nil_app]⟩, ?_⟩
      rintro m ρ M5 ⟨t, ht, rfl, rfl⟩
      have lt : (strRep " " t ++ sI h).length = t + (sI h).length := by rw [len_app, len_rep, one_len, Nat.mul_one]
      walk_at "px"
      refine ⟨szS (by omega), ?_⟩
      rw [lt]
      walk_at "px"
      by_cases hc : ((t + (sI h).length : Nat) : Int) < (wd hs : Int)
      · rw [if_pos hc]
        unfold r_law_lines_17
        walk_at "px"
        refine ⟨szS (by rw [one_len]; omega), _, _, Rle.refl, Mp.le.refl, m - 1, by omega, t + 1, by omega, rfl, ?_⟩
        rw [rep_succ, app_assoc]
      · rw [if_neg hc]
        have et : t = wd hs - (sI h).length := by omega
        subst et
        refine Fg.of ?_
        unfold r_law_lines_12
        walk_at "px"
        rw [List.length_map, Int.toNat_natCast]
        refine ⟨by unfold small62; omega, ?_⟩
        let base : Str := strRep " " (wd hs - (sI h).length) ++ sI h
        let fk (k : Nat) : Str := (((List.range k).filter fun k => decide (hs.getD k 0 = h)).map fun k => ms.getD k "").foldl (fun acc n => acc ++ (" " : Str) ++ n) base
        have fkl : ∀ k, k ≤ hs.length → (fk k).length ≤ 2000 := by
          intro k hk
          have h1 := fold_len 100 (((List.range k).filter fun k => decide (hs.getD k 0 = h)).map fun k => ms.getD k "") base fun n hn => by
            obtain ⟨i, hi, rfl⟩ := List.mem_map.mp hn
            have hi' : i < k := by simpa using (List.mem_filter.mp hi).1
            exact hmn _ (List.mem_of_getElem? (getD_of (by omega)))
          have h2 : (((List.range k).filter fun k => decide (hs.getD k 0 = h)).map fun k => ms.getD k "").length ≤ k := by
            rw [List.length_map]
            refine Nat.le_trans (List.length_filter_le _ _) ?_
            rw [List.length_range]; exact Nat.le_refl _
          have h3 : base.length ≤ 40 := by show (strRep " " _ ++ sI h).length ≤ 40; omega
          have h4 : (((List.range k).filter fun k => decide (hs.getD k 0 = h)).map fun k => ms.getD k "").length * (100 + 1) ≤ 10 * 101 := Nat.mul_le_mul (by omega) (by omega)
          have h5 : (fk k).length ≤ base.length + (((List.range k).filter fun k => decide (hs.getD k 0 = h)).map fun k => ms.getD k "").length * (100 + 1) := h1
          omega
        refine wFor_ind (fun rest ρ M' => ∃ k, k ≤ hs.length ∧ rest = (List.range' k (hs.length - k)).map (fun (i : Nat) => .int (0 + (i : Int))) ∧ M' = M5 ∧ ρ = [some (dNx ms x), some (.tup (hs.map .int)), some (.ref A1), some (.int (wd hs)), some (.int h), some (.ref l), some bb, none, none, some (.str (fk k))]) ?_ ?_ _ _ _
          ⟨0, Nat.zero_le _, by rw [List.range_eq_range', Nat.sub_zero], rfl, rfl⟩
        · rintro d xs ρ M' R ⟨k, hk, hx, rfl, rfl⟩ hR
          refine ⟨trivial, ?_⟩
          by_cases hkl : hs.length ≤ k
          · rw [show hs.length - k = 0 by omega] at hx; simp at hx
          rw [show hs.length - k = (hs.length - (k + 1)) + 1 by omega, List.range'_succ, List.map_cons, List.cons.injEq] at hx
          obtain ⟨rfl, hx⟩ := hx
          rw [Int.zero_add]
          have hkh : k < hs.length := by omega
          have hk2 := fkl k hk
          have fin : ∀ o, fk (k + 1) = o → Fg R [some (dNx ms x), some (.tup (hs.map .int)), some (.ref A1), some (.int (wd hs)), some (.int h), some (.ref l), some bb, none, some (.int k), some (.str o)] M' := by
            rintro o rfl
            refine ⟨_, _, ?_, Mp.le.refl, hR _ _ ⟨k + 1, hkh, hx, rfl, rfl⟩⟩
            exact .keep (.keep (.keep (.keep (.keep (.keep (.keep (.keep (.drop (.keep .nil)))))))))
          show r_law_lines_15 _ _ _
          walk_at "px"
          unfold r_law_lines_15
          walk_at "px"
          refine ⟨_, getI hkh, ?_⟩
          walk_at "px"
          by_cases he : hs.getD k 0 = h
          · rw [if_pos he]
            unfold r_law_lines_16
            walk_at "px"
            refine ⟨szS (by rw [one_len]; omega), ?_⟩
            rw [nx1]
            refine ?_
            walk_at "px"
            refine ⟨_, getS (by omega), ?_⟩
            have hn100 := hmn (ms.getD k "") (List.mem_of_getElem? (getD_of (by omega)))
            walk_at "px"
            refine ⟨szS (by rw [len_app, one_len]; omega), Fg.of (fin _ ?_)⟩
            show (((List.range (k + 1)).filter fun k => decide (hs.getD k 0 = h)).map fun k => ms.getD k "").foldl (fun acc n => acc ++ (" " : Str) ++ n) base = _
            rw [List.range_succ, List.filter_append, List.map_append, List.foldl_append]
            have : [k].filter (fun k => decide (hs.getD k 0 = h)) = [k] := by simp [← List.getD_eq_getElem?_getD, he]
            rw [this]; rfl
          · rw [if_neg he]
            refine fin _ ?_
            show (((List.range (k + 1)).filter fun k => decide (hs.getD k 0 = h)).map fun k => ms.getD k "").foldl (fun acc n => acc ++ (" " : Str) ++ n) base = _
            rw [List.range_succ, List.filter_append, List.map_append, List.foldl_append]
            have : [k].filter (fun k => decide (hs.getD k 0 = h)) = [] := by simp [← List.getD_eq_getElem?_getD, he]
            rw [this]; rfl
        · rintro ρ M' ⟨k, hk, hx, rfl, rfl⟩
          have hkk : k = hs.length := by
            by_cases h : hs.length - k = 0
            · omega
            · obtain ⟨m, hm⟩ := Nat.exists_eq_succ_of_ne_zero h
              rw [hm, List.range'_succ] at hx; simp at hx
          subst hkk
          have efin : fk hs.length = lineF (wd hs) ms hs h := by
            have hne' : nmL ms hs h ≠ [] := by
              obtain ⟨i, hi, ei⟩ := List.getElem_of_mem (hlt h hh).1
              intro e
              unfold nmL at e
              rw [List.map_eq_nil_iff, List.filter_eq_nil_iff] at e
              have := e i (by simpa using hi)
              simp [hi, ei] at this
            exact fold_join " " (nmL ms hs h) base hne'
          refine ⟨trivial, Fg.of ?_⟩
          rw [efin]
          unfold r_law_lines_13
          walk_at "px"
          refine ⟨.inl ⟨rfl, _, h4⟩, _, h4, ?_, Fg.of ?_⟩
          · rw [List.length_map]; exact Nat.lt_of_le_of_lt h1 (by decide)
          have el : sofar.map D.str ++ [D.str (lineF (wd hs) ms hs h)] = (sofar ++ [lineF (wd hs) ms hs h]).map .str := by simp
          rw [el]
          unfold r_law_lines_14
          walk_at "px"
          refine ⟨sl A1 (some h), _, ?_, Mp.le.refl, hZ _ _ (le_put h2 nlM) ?_ put_same rfl⟩
          · exact .keep (.keep (.keep (.keep (.drop (.keep (.keep (.keep (.keep (.drop .nil)))))))))
          · rw [put_ne hlA1.symm]; exact h3
    have key : ∀ (ρ : Rho) (M5 : Mp), M.le M5 → M5 A1 = some (.lst ((left.filter fun z => !decide (z = h)).map .int)) → M5 l = some (.lst ((pl (wd hs) ms hs none done ++ gl (wd hs) ms hs (lb none done) h).map .str)) → ρ = sl A1 (some h) →
        ∃ m', m' < left.length ∧ ∃ (left' : List Int) (A : Addr) (done : List Int), left'.length = m' ∧ ρ = sl A (lb none done) ∧ M.le M5 ∧ M5 A = some (.lst (left'.map .int)) ∧ M5 l = some (.lst ((pl (wd hs) ms hs none done).map .str)) ∧ A ≠ l ∧
          done.Pairwise (· > ·) ∧ (∀ z ∈ hs, z ∈ left' ∨ z ∈ done) ∧ (∀ z ∈ left', z ∈ hs ∧ ∀ d ∈ done, z < d) ∧ (∀ d ∈ done, d ∈ hs) ∧ done.length + left'.length ≤ hs.length ∧ (∀ d, lb none done = some d → d ∈ hs) := by
      intro ρ M5 k1 k2 k3 k4
      have hfl : (left.filter fun z => !decide (z = h)).length < left.length := by
        rw [← List.countP_eq_length_filter]
        refine Nat.lt_of_le_of_ne List.countP_le_length fun e => ?_
        have := (List.countP_eq_length.mp e) h hh
        simp at this
      refine ⟨_, hfl, _, A1, done ++ [h], rfl, by rw [k4]; simp [lb], k1, k2, by rw [pl_snoc]; exact k3, hlA1.symm, ?_, fun z hz => ?_, fun z hz => ?_, fun d hd => ?_, by simp; omega, fun d hd => ?_⟩
      · rw [List.pairwise_append]
        exact ⟨hpw, by simp, fun d hd z hz => by rw [List.mem_singleton.mp hz]; exact (hlt h hh).2 d hd⟩
      · rcases hcov z hz with k | k
        · by_cases e : z = h
          · exact .inr (by simp [e])
          · exact .inl (by rw [List.mem_filter]; exact ⟨k, by simp [e]⟩)
        · exact .inr (by simp [k])
      · rw [List.mem_filter] at hz
        obtain ⟨z1, z2⟩ := hz
        have z2 : z ≠ h := by simpa using z2
        refine ⟨(hlt z z1).1, fun d hd => ?_⟩
        rcases List.mem_append.mp hd with hd | hd
        · exact (hlt z z1).2 d hd
        · rw [List.mem_singleton.mp hd]
          have := hmx z z1; omega
      · rcases List.mem_append.mp hd with hd | hd
        · exact hdn d hd
        · rw [List.mem_singleton.mp hd]; exact (hlt h hh).1
      · have : lb none (done ++ [h]) = some h := by simp [lb]
        rw [this] at hd; cases hd; exact (hlt h hh).1
    unfold r_law_lines_9
    walk_at "px"
    have hb0 := hlb
    generalize lb none done = b at *
    cases b with
    | none =>
      rw [if_neg (by decide)]
      exact Fg.of (go _ _ _ (by have := hpb.2; omega) lM mA' ml fun ρ M5 k1 k2 k3 k4 => key ρ M5 k1 k2 k3 k4)
    | some d =>
      have hdh := hhs d (hb0 d rfl)
      have e20' : (sI (d - h)).length ≤ 20 := sI_len (by omega)
      have e20'' : (Str.ofString (toString (d - h))).length ≤ 20 := e20'
      rw [if_pos (show isN (bD (some d)) = false from rfl)]
      unfold r_law_lines_18
      walk_at "px"
      rw [Int.toNat_natCast]
      refine ⟨.inl ⟨rfl, _, ml⟩, rfl, by unfold small62; omega, fun c hc => ?_⟩
      refine comp_all (y := []) (xs := List.range (wd hs)) _ (fun _ => .str (" " : Str)) hc trivial (by rw [List.length_range]; exact sz (by omega)) (fun k hk => ⟨_, rfl, fun M6 hl Q hQ => ?_⟩) ?_
      · walk_at "px"
        exact hQ _ Mp.le.refl
      have er : (List.range (wd hs)).map (fun _ => D.str (" " : Str)) = (List.replicate (wd hs) (" " : Str)).map .str := by
        rw [List.map_replicate]
        exact List.eq_replicate_iff.mpr ⟨by rw [List.length_map, List.length_range], fun z hz => by
          obtain ⟨_, _, e⟩ := List.mem_map.mp hz
          exact e.symm⟩
      rw [er]
      refine ⟨_, put_same, ?_, ?_⟩
      · rw [e0]; simp [one_len]; omega
      rw [join_rep]
      have hlc : l ≠ c := ne_new ml hc
      have hAc : A1 ≠ c := ne_new mA' hc
      refine ⟨szS (by rw [len_rep, one_len, e3]; omega), ?_⟩
      show rSub' (.int d) _ _ _
      walk_at "px"
      refine ⟨log_small (by omega), ?_⟩
      walk_at "px"
      refine ⟨szS (by rw [len_app, len_rep, one_len, e3]; omega), _, (put_ne hlc).trans ml, ?_, ?_⟩
      · rw [List.length_map]; exact Nat.lt_of_le_of_lt (show _ ≤ 1000 by have := hpb.2; omega) (by decide)
      have ef : strRep " " (wd hs) ++ (" | " : Str) ++ Str.ofString (toString (d - h)) = gapF (wd hs) (d - h) := rfl
      rw [ef]
      have el : (pl (wd hs) ms hs none done).map D.str ++ [D.str (gapF (wd hs) (d - h))] = (pl (wd hs) ms hs none done ++ [gapF (wd hs) (d - h)]).map .str := by simp
      rw [el]
      have nc : M c = none := by
        cases qm : M c with
        | none => rfl
        | some o => rw [lM c o qm] at hc; cases hc
      refine Fg.of (Fg.of (go (pl (wd hs) ms hs none done ++ [gapF (wd hs) (d - h)]) _ _ (by have := hpb.2; simp; omega) (le_put (le_put lM nc) nlM) ?_ put_same fun ρ M5 k1 k2 k3 k4 => key ρ M5 k1 k2 (by rw [k3]; simp [gl]) k4))
      rw [put_ne hlA1.symm, put_ne hAc]; exact mA'
  unfold r_law_lines_2
  walk_at "px"
  refine wFor_ind (fun rest' ρ M' => ∃ (done todo : List Int) , hs = done ++ todo ∧ rest' = todo.map .int ∧ M' = M1 ∧ ρ = [some (dNx ms x), some (.tup (hs.map .int)), some (.ref A0), some (.int ((done.foldl (fun m h => max m (sI h).length) 0 : Nat))), none, none, none, none, none, none]) ?_ ?_ _ _ _ ⟨[], hs, rfl, rfl, rfl, rfl⟩
  · rintro d xs ρ M' R ⟨done, todo, hsp, hx, rfl, rfl⟩ hR
    refine ⟨trivial, ?_⟩
    cases todo with
    | nil => simp at hx
    | cons h todo =>
    simp only [List.map_cons, List.cons.injEq] at hx
    obtain ⟨rfl, rfl⟩ := hx
    have hhh := hhs h (by rw [hsp]; simp)
    have e20 : (sI h).length ≤ 20 := sI_len (by omega)
    have e20'' : (Str.ofString (toString h)).length ≤ 20 := e20
    show r_law_lines_19 _ _ _
    walk_at "px"
    unfold r_law_lines_19
    walk_at "px"
    refine ⟨log_small (by omega), szS (by omega), ?_⟩
    have em : ∀ a b : Nat, (if (a : Int) > (b : Int) then (a : Int) else (b : Int)) = ((max b a : Nat) : Int) := by
      intro a b; split <;> omega
    walk_at "px"
    rw [x_max2, em]
    have ed : (done ++ [h]).foldl (fun m h => max m (sI h).length) 0 = max (done.foldl (fun m h => max m (sI h).length) 0) (Str.ofString (toString h)).length := by rw [List.foldl_append]; rfl
    rw [← ed]
    refine ⟨_, _, ?_, Mp.le.refl, hR _ _ ⟨done ++ [h], todo, by rw [hsp]; simp, rfl, rfl, rfl⟩⟩
    exact .keep (.keep (.keep (.keep (.drop (.keep (.keep (.keep (.keep (.keep .nil)))))))))
  · rintro ρ M' ⟨done, todo, hsp, hx, rfl, rfl⟩
    have : todo = [] := by simpa using hx.symm
    subst this
    rw [List.append_nil] at hsp
    subst hsp
    rw [← max_fold]
    exact ⟨trivial, Fg.of rest⟩
end Pw
set_option Elab.async false
set_option linter.all false
set_option maxRecDepth 100000
set_option maxHeartbeats 1000000
namespace Pw
open PySem PySem.Spec PyProof.Rows L2
local macro_rules | `(tactic| walk_at "px") => `(tactic| simp only [x_ix0, x_wipe0, x_wipeS, x_ix1, x_ix2, x_ix3, x_ixt, x_ixR, x_ixl, x_addI, x_addS, x_addT, x_sub, x_div, x_mod, x_pow, x_mul, x_lt, x_le, x_gt, x_ge, x_eqI, x_neI, x_eqS, x_neS, x_isN, x_notN, x_isB, x_notB, x_b2, x_con, x_var0, x_varS, x_call, x_nil, x_cons, x_tup, x_lst, x_tt, x_truB, x_truI, x_truN, x_truT, x_nt, x_an, x_ro, x_neg, x_not, x_ite, x_and, x_or, x_chain, x_asg, x_gName, x_seq, x_next, x_if, x_for, x_iVal, x_itT, x_iEnum, x_enT, x_iZip, x_zipT, x_iRev, x_rvT, x_rng1, x_rng2, x_rng3, x_comp, x_slc, x_noP, x_part, x_meth, x_gTup, x_gCons, x_gNil, x_gSub, x_bTupleT, x_bTupleL, x_bLenT, x_bLenL, x_bLenR, x_bAbs, x_bInt, x_bIntB, x_ixI, runR, startD, List.map_cons, List.map_nil, List.length_cons, List.length_nil, Nat.reduceAdd, Nat.reduceSub, List.replicate_succ, List.replicate_zero, List.cons_append, List.nil_append, List.set_cons_zero, List.set_cons_succ, Option.some.injEq, exists_eq_left', sl0, sl1, sl2, sl3, sl4, sl5, sl6, true_and, and_true, List.append_nil, Bool.false_eq_true, if_true, if_false, ite_true, ite_false, reduceIte, decide_eq_true_eq, Bool.not_eq_true', decide_eq_false_iff_not, Bool.not_true, Bool.not_false, gt_iff_lt, ge_iff_le, Int.reduceAdd, Int.reduceSub, Int.reduceMul, Int.reduceNeg])
theorem All2.strs {α : Type} {r : α → D → Prop} {P : Str → Prop} (h : ∀ x z, r x z → ∃ k : Str, z = .str k ∧ P k) {xs : List α} {ys : List D} (a : All2 r xs ys) : ∃ ks : List Str, ys = ks.map .str ∧ ks.length = xs.length ∧ ∀ k ∈ ks, P k := by
  induction a with
  | nil => exact ⟨[], rfl, rfl, by simp⟩
  | cons hr _ ih =>
    obtain ⟨k, rfl, hk⟩ := h _ _ hr
    obtain ⟨ks, rfl, hl, hks⟩ := ih
    refine ⟨k :: ks, rfl, by simp [hl], fun z hz => ?_⟩
    rcases List.mem_cons.mp hz with rfl | hz
    · exact hk
    · exact hks z hz
theorem Dr.none {M M' : Mp} {b a p : Addr} (h : Dr M b a M') (n : M' p = none) : M p = none ∧ p ≠ b := by
  obtain ⟨i, k⟩ := h
  have hb : p ≠ b := fun e => by have := k b _ put_same; rw [← e, n] at this; cases this
  refine ⟨?_, hb⟩
  cases e : M p with
  | none => rfl
  | some o => have := k p o (by rw [put_ne hb]; exact e); rw [n] at this; cases this
def sp_law : RC' := fun ds M Q => ∃ a ns, ds = [.rol a ns] ∧ ∀ M', Q (.bl true) M'
theorem put_mono {M M' : Mp} {b : Addr} {o : MO} (h : M.le M') : (put M b o).le (put M' b o) := fun c u e => by
  by_cases hc : c = b
  · rw [hc, put_same] at e ⊢; exact e
  · rw [put_ne hc] at e ⊢; exact h c u e
theorem oct_len : ("abcdefgh" : Str).cps.toList.length = 8 := by decide +kernel
theorem v_law (ds M Q) (h : sp_law ds M Q) : runR r_law n_law ds M Q := by
  obtain ⟨sa, ns, rfl, q⟩ := h
  unfold r_law n_law
  walk_at "px"
  refine ⟨sa, ns, 63, rfl, by decide, fun zs p hz hzl hp => ?_⟩
  walk_at "px"
  intro b hb0
  refine Fg.of ?_
  have hb : Box (put (put M p (.lst (zs.map .int))) b (.lst [.ref p, .int 0])) b p zs := ⟨ne_new put_same hb0, ⟨0, put_same⟩, by rw [put_ne (ne_new put_same hb0)]; exact put_same, hz⟩
  generalize put (put M p (.lst (zs.map .int))) b (.lst [.ref p, .int 0]) = M1 at *
  unfold r_law_1
  walk_at "px"
  refine ⟨by unfold small62; omega, ?_⟩
  refine wFor_ind (fun rest ρ M' => ρ = [some (.rol sa ns), some (.ref b), none, none, none, none, none, none, none, none] ∧ Dr M1 b p M') ?_ ?_ _ _ _ ⟨rfl, Dr.refl hb⟩
  · rintro d xs ρ M' R ⟨rfl, d1⟩ hR
    refine ⟨trivial, ?_⟩
    have fin : ∀ (o2 o3 o4 o5 o6 o7 o8 o9 : Option D) M2, Dr M1 b p M2 → Fg R [some (.rol sa ns), some (.ref b), o2, o3, o4, o5, o6, o7, o8, o9] M2 := fun o2 o3 o4 o5 o6 o7 o8 o9 M2 k =>
      ⟨_, M2, .keep (.keep (.drop (.drop (.drop (.drop (.drop (.drop (.drop (.drop .nil))))))))), Mp.le.refl, hR _ _ ⟨rfl, k⟩⟩
    show r_law_3 _ _ _
    walk_at "px"
    unfold r_law_3
    walk_at "px"
    refine ⟨b, p, zs, 7, rfl, by decide, d1.box hb, fun j i hj => Fg.of ?_⟩
    replace d1 := d1.draw i
    generalize put M' b (bx p i) = M2 at *
    unfold r_law_4
    walk_at "px"
    have s5 : (5 ≤ sizeLine) = True := eq_true (by decide)
    intro u hu
    have ub := (d1.none hu).2
    refine ⟨b, p, zs, .ref u, _, rfl, .inr ⟨u, rfl, ub, put_same⟩, by simp, (d1.new hu).box hb, fun du i2 hdu => Fg.of ?_⟩
    obtain ⟨un, rfl, hun1, hun2⟩ : ∃ un : Int, du = .int un ∧ 1 ≤ un ∧ un ≤ 99991 := by
      simp only [List.mem_cons, List.mem_nil_iff, or_false, List.not_mem_nil] at hdu
      rcases hdu with rfl | rfl | rfl | rfl | rfl <;> exact ⟨_, rfl, by decide, by decide⟩
    replace d1 := (d1.new (o := .lst [.int 1, .int 1, .int 5, .int 1000, .int 99991]) hu).draw i2
    generalize put (put M2 u (.lst [.int 1, .int 1, .int 5, .int 1000, .int 99991])) b (bx p i2) = M3 at *
    unfold r_law_5
    walk_at "px"
    have e1 : ((1 : Int) + j - 1).toNat = j := by omega
    rw [e1]
    refine ⟨by unfold small62; omega, fun c hc => ?_⟩
    refine comp_draw (y := []) (xs := List.range j) _ (fun (_ : Nat) z => ∃ k : Int, z = .int k ∧ (-(10 ^ 9) < k ∧ k < 10 ^ 9)) hc (d1.box hb) (fun _ _ => trivial) (by rw [List.length_range]; exact sz (by omega)) (fun k hk => ⟨_, rfl, fun M4 d2 Q hQ => ?_⟩) fun zs1 M4 ha d2 m4 => ?_
    · walk_at "px"
      refine ⟨b, p, zs, 9, rfl, by decide, (d1.trans d2).box hb, fun j2 i3 hj2 => ?_⟩
      walk_at "px"
      refine ⟨cm2 (by omega), hQ _ i3 _ ⟨_, rfl, ?_, ?_⟩ Mp.le.refl⟩
      · have : -4 * un ≤ ((j2 : Int) - 4) * un := Int.mul_le_mul_of_nonneg_right (by omega) (by omega)
        omega
      · have : ((j2 : Int) - 4) * un ≤ 4 * un := Int.mul_le_mul_of_nonneg_right (by omega) (by omega)
        omega
    obtain ⟨hs0, rfl, hsl, hsb⟩ := ha.ints fun _ _ h => h
    rw [List.length_range] at hsl
    replace d1 := d1.trans d2
    refine ⟨_, m4, szS (by simp; omega), Fg.of ?_⟩
    have eh : [D.int 0] ++ hs0.map .int = (0 :: hs0).map .int := rfl
    rw [eh]
    have hlen : (0 :: hs0).length = 1 + j := by simp [hsl]; omega
    have hsb2 : ∀ h ∈ (0 :: hs0), -(10 ^ 9) < h ∧ h < 10 ^ 9 := fun h hh => by
      rcases List.mem_cons.mp hh with rfl | hh
      · exact ⟨by decide, by decide⟩
      · exact hsb h hh
    have hne : (0 :: hs0) ≠ [] := by simp
    generalize (0 :: hs0) = hs at *
    unfold r_law_6
    walk_at "px"
    have e2 : ((1 : Int) + j).toNat = 1 + j := by omega
    rw [e2]
    refine ⟨by unfold small62; omega, fun c2 hc2 => ?_⟩
    refine comp_draw (y := []) (xs := List.range (1 + j)) _ (fun (_ : Nat) z => ∃ k : Str, z = .str k ∧ k.length ≤ 100) hc2 (d1.box hb) (fun _ _ => trivial) (by rw [List.length_range]; exact sz (by omega)) (fun k hk => ⟨_, rfl, fun M5 d3 Q hQ => ?_⟩) fun zs2 M5 ha2 d3 m5 => ?_
    · have hk' : k < 1 + j := by simpa using hk
      walk_at "px"
      intro v hv
      have vb := ((d1.trans d3).none hv).2
      refine ⟨b, p, zs, .ref v, _, rfl, .inr ⟨v, rfl, vb, put_same⟩, by simp, ((d1.trans d3).new hv).box hb, fun dn i3 hdn => ?_⟩
      obtain ⟨nm, rfl, hnm⟩ : ∃ nm : Str, dn = .str nm ∧ nm.length ≤ 4 := by
        simp only [List.mem_cons, List.mem_nil_iff, or_false, List.not_mem_nil] at hdn
        rcases hdn with rfl | rfl | rfl | rfl | rfl <;> exact ⟨_, rfl, by decide +kernel⟩
      simp only [Int.zero_add]
      refine ⟨by decide +kernel, _, by rw [atI_nat]; exact getD_of (d := 0) (by rw [oct_len]; omega), ?_⟩
      walk_at "px"
      have e1 : ∀ c : Nat, (⟨#[c]⟩ : Str).length = 1 := fun c => rfl
      refine ⟨szS (by rw [e1]; omega), hQ _ i3 _ ⟨_, rfl, by rw [len_app, e1]; omega⟩ ?_⟩
      exact put_mono (Mp.le.new hv)
    obtain ⟨ms, rfl, hmsl, hmsb⟩ := ha2.strs fun _ _ h => h
    rw [List.length_range] at hmsl
    replace d1 := d1.trans d3
    refine Fg.of ?_
    unfold r_law_7
    walk_at "px"
    refine ⟨_, m5, ?_⟩
    rw [e1]
    refine ⟨by unfold small62; omega, fun c3 hc3 => ?_⟩
    refine comp_draw (y := []) (xs := List.range j) _ (fun (_ : Nat) z => True) hc3 (d1.box hb) (fun _ _ => trivial) (by rw [List.length_range]; exact sz (by omega)) (fun k hk => ⟨_, rfl, fun M6 d4 Q hQ => ?_⟩) fun zs3 M6 ha3 d4 m6 => ?_
    · walk_at "px"
      refine ⟨b, p, zs, 9, rfl, by decide, (d1.trans d4).box hb, fun j2 i3 hj2 => ?_⟩
      walk_at "px"
      exact hQ _ i3 _ trivial Mp.le.refl
    replace d1 := d1.trans d4
    refine ⟨_, m6, ?_⟩
    walk_at "px"
    refine Fg.of ?_
    have sm : Sm ms hs := ⟨hne, by omega, by omega, hmsb, hsb2⟩
    obtain ⟨_, hl10, hml, hmn, hhs⟩ := id sm
    have hw20 := wd_le hhs
    unfold r_law_8
    walk_at "px"
    refine ⟨ms, .tup zs3, hs, rfl, sm, fun ls lv => ⟨rfl, ⟨ms, .tup zs3, hs, rfl, sm, fun ls2 l M7 lv2 hl2 lM ml => ?_⟩⟩⟩
    have el : ls2 = ls := lv_uniq lv2.p lv.p fun z => (lv2.m z).trans (lv.m z).symm
    subst el
    refine ⟨_, ml, fun c4 hc4 => ?_⟩
    have pb := pl_bound (ms := ms) hl10 hmn hw20 ls2 none (fun h hh => hhs h ((lv.m h).mp hh)) (by simp)
    have hll : (pl (wd hs) ms hs none ls2).length ≤ 100 := by have := pb.2; omega
    refine x_lines hc4 ml pb.1 hll (fun z hz M8 hM Q hQ => ?_) fun M8 hM => ?_
    · walk_at "px"
      refine ⟨szS ?_, hQ _ Mp.le.refl⟩
      have := pb.1 z hz
      have e1 : ("\n" : Str).length = 1 := by decide +kernel
      rw [e1]; omega
    · walk_at "px"
      rw [if_neg (by simp)]
      exact fin _ _ _ _ _ _ _ _ M8 (d1.more (lM.trans hM))
  · rintro ρ M' ⟨rfl, d1⟩
    refine ⟨trivial, Fg.of ?_⟩
    unfold r_law_2
    walk_at "px"
    exact Up.of (q M')
end Pw
set_option Elab.async false
set_option linter.all false
set_option maxRecDepth 100000
set_option maxHeartbeats 4000000
/-! a law's head, the general part -/
namespace Pw
open PySem PySem.Spec PyProof.Rows L2
section
variable {P : Program} {w : World} {K : PySem.W.Frag} {mg : Str → Option Value} {base : Heap} {j n m : Nat} {Γ : Gm} {h : Heap}
theorem run_of {N : List Str} {sc : Scope} {body : List Stmt} {r : S'} {ds : List D} {M : Mp} {Q : Q1} (e : wB Γ (rd Γ n) ⟨N, sc, fun _ => true⟩ m body = r) (k : runR r N ds M Q) : runB Γ n m N sc body ds M Q := by
  unfold runB; rw [e]; exact k
theorem call_of {x : Str} {params : Arguments} {body : List Stmt} {scope : Scope} {f : Addr} {fd : FuncData} {N ps : List Str} {r : RC'} (F : FunD K x x params body scope [] [] f fd) (S : FnScope N ps scope) (hΓ : Γ.Ok P w K mg base j)
    (len : ∀ ds M Q, r ds M Q → ds.length = ps.length) (hb : ∀ ds M Q, r ds M Q → runB Γ n m N scope body ds M Q) (hm : mg x = some (.ref f)) (bt : Binds K fd ps []) (hdb : (x == ("__debug__" : Str)) = false) : CallOk P w K mg base (j + 1) x r :=
  callOk_fn (fn_body F S hΓ len hb) hm F.kp bt len hdb
theorem free_all {l : List He.Fa} {fn : List He.DefD} (c : He.SaysD (bnames.map He.Fa.free ++ l) fn K) (X : K.In h) (G : h.Ns mainGlobals mg) : Free mg := fun x hx => by
  obtain ⟨i, hi⟩ := List.mem_iff_getElem?.mp hx
  have hl : i < bnames.length := (List.getElem?_eq_some_iff.mp hi).1
  exact He.free_ok X G (c.fact i (f := .free x) (by rw [List.getElem?_append_left (by simpa using hl), List.getElem?_map, hi]; rfl))
theorem glo_at {l : List He.Fa} {fn : List He.DefD} (c : He.SaysD (bnames.map He.Fa.free ++ l) fn K) (X : K.In h) (G : h.Ns mainGlobals mg) (i : Nat) {x : Str} (e : l[i]? = some (.glo x)) : mg x = some (.ref (He.ga K x)) :=
  He.glo_ok X G (c.fact (bnames.length + i) (f := .glo x) (by rw [List.getElem?_append_right (by simp), List.length_map, Nat.add_sub_cancel_left]; exact e))
theorem AllG.nil : AllG P w K mg base j [] := fun _ z => by simp at z
theorem AllC.add {x : Str} {r : RC'} {l : List (Str × RC')} (t : AllC P w K mg base j l) (c : CallOk P w K mg base (j + 1) x r) : AllC P w K mg base (j + 1) ((x, r) :: l) := .cons c (t.le (Nat.le_succ _))
end
end Pw
set_option Elab.async false
set_option linter.all false
set_option maxRecDepth 100000
set_option maxHeartbeats 0
namespace Zk34
open PySem PySem.Spec PyProof.Rows L2 Pw
def top (i : Nat) : Stmt := PySem.Challenge.pw_truelevels_k34_profile_is_drawn.main.body.getD i (.Pass ⟨0, 0, 0, 0⟩)
abbrev s_rows_of : Stmt := top 1
theorem link_rows_of : wB (gm blts [] []) (rd (gm blts [] []) 60) ⟨n_rows_of, defScope s_rows_of, fun _ => true⟩ 100 (defBody s_rows_of) = r_rows_of := by kernel_rfl
abbrev p_rows_of : List Str := ["net", "heights"]
theorem sc_rows_of : FnScope n_rows_of p_rows_of (defScope s_rows_of) := ⟨rfl, rfl, rfl, by decide +kernel, rfl, by decide +kernel, by decide +kernel⟩
theorem len_rows_of (ds : List D) (M : Mp) (Q : Q1) (h : sp_rows_of ds M Q) : ds.length = p_rows_of.length := by
  first
    | (obtain ⟨_, rfl, _⟩ := h; rfl)
    | (obtain ⟨_, _, rfl, _⟩ := h; rfl)
    | (obtain ⟨_, _, _, rfl, _⟩ := h; rfl)
    | (obtain ⟨_, _, _, _, rfl, _⟩ := h; rfl)
    | (obtain ⟨_, _, _, _, _, rfl, _⟩ := h; rfl)
    | (obtain ⟨_, _, _, _, _, _, rfl, _⟩ := h; rfl)
    | (obtain ⟨_, _, _, _, _, _, _, rfl, _⟩ := h; rfl)
    | (obtain ⟨_, _, _, _, _, _, _, _, rfl, _⟩ := h; rfl)
    | (obtain ⟨_, _, _, _, _, _, _, _, _, rfl, _⟩ := h; rfl)
    | (obtain ⟨_, _, _, _, _, _, _, _, _, _, rfl, _⟩ := h; rfl)
    | (obtain ⟨_, _, _, _, _, _, _, _, _, _, _, rfl, _⟩ := h; rfl)
    | (obtain ⟨_, _, _, _, _, _, _, _, _, _, _, _, rfl, _⟩ := h; rfl)
    | (obtain ⟨_, _, _, _, _, _, _, _, _, _, _, _, _, rfl, _⟩ := h; rfl)
def d_rows_of : He.DefD := ⟨("rows_of", none), "rows_of", "rows_of", defArgs s_rows_of, defBody s_rows_of, defScope s_rows_of, [], []⟩
abbrev L_rows_of : List (Str × RC') := ("rows_of", sp_rows_of) :: blts
abbrev s_profile : Stmt := top 2
theorem link_profile : wB (gm L_rows_of [] []) (rd (gm L_rows_of [] []) 60) ⟨n_profile, defScope s_profile, fun _ => true⟩ 100 (defBody s_profile) = r_profile := by kernel_rfl
abbrev p_profile : List Str := ["net", "heights"]
theorem sc_profile : FnScope n_profile p_profile (defScope s_profile) := ⟨rfl, rfl, rfl, by decide +kernel, rfl, by decide +kernel, by decide +kernel⟩
theorem len_profile (ds : List D) (M : Mp) (Q : Q1) (h : sp_profile ds M Q) : ds.length = p_profile.length := by
  first
    | (obtain ⟨_, rfl, _⟩ := h; rfl)
    | (obtain ⟨_, _, rfl, _⟩ := h; rfl)
    | (obtain ⟨_, _, _, rfl, _⟩ := h; rfl)
    | (obtain ⟨_, _, _, _, rfl, _⟩ := h; rfl)
    | (obtain ⟨_, _, _, _, _, rfl, _⟩ := h; rfl)
    | (obtain ⟨_, _, _, _, _, _, rfl, _⟩ := h; rfl)
    | (obtain ⟨_, _, _, _, _, _, _, rfl, _⟩ := h; rfl)
    | (obtain ⟨_, _, _, _, _, _, _, _, rfl, _⟩ := h; rfl)
    | (obtain ⟨_, _, _, _, _, _, _, _, _, rfl, _⟩ := h; rfl)
    | (obtain ⟨_, _, _, _, _, _, _, _, _, _, rfl, _⟩ := h; rfl)
    | (obtain ⟨_, _, _, _, _, _, _, _, _, _, _, rfl, _⟩ := h; rfl)
    | (obtain ⟨_, _, _, _, _, _, _, _, _, _, _, _, rfl, _⟩ := h; rfl)
    | (obtain ⟨_, _, _, _, _, _, _, _, _, _, _, _, _, rfl, _⟩ := h; rfl)
def d_profile : He.DefD := ⟨("profile", none), "profile", "profile", defArgs s_profile, defBody s_profile, defScope s_profile, [], []⟩
abbrev L_profile : List (Str × RC') := ("profile", sp_profile) :: L_rows_of
abbrev s_law_cell : Stmt := top 4
theorem link_law_cell : wB (gm L_profile [] []) (rd (gm L_profile [] []) 60) ⟨n_law_cell, defScope s_law_cell, fun _ => true⟩ 100 (defBody s_law_cell) = r_law_cell := by kernel_rfl
abbrev p_law_cell : List Str := ["_law_script", "_law_k"]
theorem sc_law_cell : FnScope n_law_cell p_law_cell (defScope s_law_cell) := ⟨rfl, rfl, rfl, by decide +kernel, rfl, by decide +kernel, by decide +kernel⟩
theorem len_law_cell (ds : List D) (M : Mp) (Q : Q1) (h : sp_law_cell ds M Q) : ds.length = p_law_cell.length := by
  first
    | (obtain ⟨_, rfl, _⟩ := h; rfl)
    | (obtain ⟨_, _, rfl, _⟩ := h; rfl)
    | (obtain ⟨_, _, _, rfl, _⟩ := h; rfl)
    | (obtain ⟨_, _, _, _, rfl, _⟩ := h; rfl)
    | (obtain ⟨_, _, _, _, _, rfl, _⟩ := h; rfl)
    | (obtain ⟨_, _, _, _, _, _, rfl, _⟩ := h; rfl)
    | (obtain ⟨_, _, _, _, _, _, _, rfl, _⟩ := h; rfl)
    | (obtain ⟨_, _, _, _, _, _, _, _, rfl, _⟩ := h; rfl)
    | (obtain ⟨_, _, _, _, _, _, _, _, _, rfl, _⟩ := h; rfl)
    | (obtain ⟨_, _, _, _, _, _, _, _, _, _, rfl, _⟩ := h; rfl)
    | (obtain ⟨_, _, _, _, _, _, _, _, _, _, _, rfl, _⟩ := h; rfl)
    | (obtain ⟨_, _, _, _, _, _, _, _, _, _, _, _, rfl, _⟩ := h; rfl)
    | (obtain ⟨_, _, _, _, _, _, _, _, _, _, _, _, _, rfl, _⟩ := h; rfl)
def d_law_cell : He.DefD := ⟨("_law_cell", none), "_law_cell", "_law_cell", defArgs s_law_cell, defBody s_law_cell, defScope s_law_cell, [], []⟩
abbrev L_law_cell : List (Str × RC') := ("_law_cell", sp_law_cell) :: L_profile
abbrev s_law_digits : Stmt := top 5
theorem link_law_digits : wB (gm L_law_cell [] []) (rd (gm L_law_cell [] []) 60) ⟨n_law_digits, defScope s_law_digits, fun _ => true⟩ 100 (defBody s_law_digits) = r_law_digits := by kernel_rfl
abbrev p_law_digits : List Str := ["_law_script", "_law_first", "_law_last"]
theorem sc_law_digits : FnScope n_law_digits p_law_digits (defScope s_law_digits) := ⟨rfl, rfl, rfl, by decide +kernel, rfl, by decide +kernel, by decide +kernel⟩
theorem len_law_digits (ds : List D) (M : Mp) (Q : Q1) (h : sp_law_digits ds M Q) : ds.length = p_law_digits.length := by
  first
    | (obtain ⟨_, rfl, _⟩ := h; rfl)
    | (obtain ⟨_, _, rfl, _⟩ := h; rfl)
    | (obtain ⟨_, _, _, rfl, _⟩ := h; rfl)
    | (obtain ⟨_, _, _, _, rfl, _⟩ := h; rfl)
    | (obtain ⟨_, _, _, _, _, rfl, _⟩ := h; rfl)
    | (obtain ⟨_, _, _, _, _, _, rfl, _⟩ := h; rfl)
    | (obtain ⟨_, _, _, _, _, _, _, rfl, _⟩ := h; rfl)
    | (obtain ⟨_, _, _, _, _, _, _, _, rfl, _⟩ := h; rfl)
    | (obtain ⟨_, _, _, _, _, _, _, _, _, rfl, _⟩ := h; rfl)
    | (obtain ⟨_, _, _, _, _, _, _, _, _, _, rfl, _⟩ := h; rfl)
    | (obtain ⟨_, _, _, _, _, _, _, _, _, _, _, rfl, _⟩ := h; rfl)
    | (obtain ⟨_, _, _, _, _, _, _, _, _, _, _, _, rfl, _⟩ := h; rfl)
    | (obtain ⟨_, _, _, _, _, _, _, _, _, _, _, _, _, rfl, _⟩ := h; rfl)
def d_law_digits : He.DefD := ⟨("_law_digits", none), "_law_digits", "_law_digits", defArgs s_law_digits, defBody s_law_digits, defScope s_law_digits, [], []⟩
abbrev L_law_digits : List (Str × RC') := ("_law_digits", sp_law_digits) :: L_law_cell
abbrev s_law_drawB : Stmt := top 6
theorem link_law_drawB : wB (gm L_law_digits [] []) (rd (gm L_law_digits [] []) 60) ⟨n_law_drawB, defScope s_law_drawB, fun _ => true⟩ 100 (defBody s_law_drawB) = r_law_drawB := by kernel_rfl
abbrev p_law_drawB : List Str := ["_law_box", "_law_many"]
theorem sc_law_drawB : FnScope n_law_drawB p_law_drawB (defScope s_law_drawB) := ⟨rfl, rfl, rfl, by decide +kernel, rfl, by decide +kernel, by decide +kernel⟩
theorem len_law_drawB (ds : List D) (M : Mp) (Q : Q1) (h : sp_law_drawB ds M Q) : ds.length = p_law_drawB.length := by
  first
    | (obtain ⟨_, rfl, _⟩ := h; rfl)
    | (obtain ⟨_, _, rfl, _⟩ := h; rfl)
    | (obtain ⟨_, _, _, rfl, _⟩ := h; rfl)
    | (obtain ⟨_, _, _, _, rfl, _⟩ := h; rfl)
    | (obtain ⟨_, _, _, _, _, rfl, _⟩ := h; rfl)
    | (obtain ⟨_, _, _, _, _, _, rfl, _⟩ := h; rfl)
    | (obtain ⟨_, _, _, _, _, _, _, rfl, _⟩ := h; rfl)
    | (obtain ⟨_, _, _, _, _, _, _, _, rfl, _⟩ := h; rfl)
    | (obtain ⟨_, _, _, _, _, _, _, _, _, rfl, _⟩ := h; rfl)
    | (obtain ⟨_, _, _, _, _, _, _, _, _, _, rfl, _⟩ := h; rfl)
    | (obtain ⟨_, _, _, _, _, _, _, _, _, _, _, rfl, _⟩ := h; rfl)
    | (obtain ⟨_, _, _, _, _, _, _, _, _, _, _, _, rfl, _⟩ := h; rfl)
    | (obtain ⟨_, _, _, _, _, _, _, _, _, _, _, _, _, rfl, _⟩ := h; rfl)
def d_law_drawB : He.DefD := ⟨("_law_draw", none), "_law_draw", "_law_draw", defArgs s_law_drawB, defBody s_law_drawB, defScope s_law_drawB, [], []⟩
abbrev L_law_drawB : List (Str × RC') := ("_law_draw", sp_law_drawB) :: L_law_digits
abbrev s_law_pick : Stmt := top 7
theorem link_law_pick : wB (gm L_law_drawB [] []) (rd (gm L_law_drawB [] []) 60) ⟨n_law_pick, defScope s_law_pick, fun _ => true⟩ 100 (defBody s_law_pick) = r_law_pick := by kernel_rfl
abbrev p_law_pick : List Str := ["_law_box", "_law_things"]
theorem sc_law_pick : FnScope n_law_pick p_law_pick (defScope s_law_pick) := ⟨rfl, rfl, rfl, by decide +kernel, rfl, by decide +kernel, by decide +kernel⟩
theorem len_law_pick (ds : List D) (M : Mp) (Q : Q1) (h : sp_law_pick ds M Q) : ds.length = p_law_pick.length := by
  first
    | (obtain ⟨_, rfl, _⟩ := h; rfl)
    | (obtain ⟨_, _, rfl, _⟩ := h; rfl)
    | (obtain ⟨_, _, _, rfl, _⟩ := h; rfl)
    | (obtain ⟨_, _, _, _, rfl, _⟩ := h; rfl)
    | (obtain ⟨_, _, _, _, _, rfl, _⟩ := h; rfl)
    | (obtain ⟨_, _, _, _, _, _, rfl, _⟩ := h; rfl)
    | (obtain ⟨_, _, _, _, _, _, _, rfl, _⟩ := h; rfl)
    | (obtain ⟨_, _, _, _, _, _, _, _, rfl, _⟩ := h; rfl)
    | (obtain ⟨_, _, _, _, _, _, _, _, _, rfl, _⟩ := h; rfl)
    | (obtain ⟨_, _, _, _, _, _, _, _, _, _, rfl, _⟩ := h; rfl)
    | (obtain ⟨_, _, _, _, _, _, _, _, _, _, _, rfl, _⟩ := h; rfl)
    | (obtain ⟨_, _, _, _, _, _, _, _, _, _, _, _, rfl, _⟩ := h; rfl)
    | (obtain ⟨_, _, _, _, _, _, _, _, _, _, _, _, _, rfl, _⟩ := h; rfl)
def d_law_pick : He.DefD := ⟨("_law_pick", none), "_law_pick", "_law_pick", defArgs s_law_pick, defBody s_law_pick, defScope s_law_pick, [], []⟩
abbrev L_law_pick : List (Str × RC') := ("_law_pick", sp_law_pick) :: L_law_drawB
abbrev s_law_lines : Stmt := top 8
theorem link_law_lines : wB (gm L_law_pick [] []) (rd (gm L_law_pick [] []) 60) ⟨n_law_lines, defScope s_law_lines, fun _ => true⟩ 100 (defBody s_law_lines) = r_law_lines := by kernel_rfl
abbrev p_law_lines : List Str := ["_law_net", "_law_heights"]
theorem sc_law_lines : FnScope n_law_lines p_law_lines (defScope s_law_lines) := ⟨rfl, rfl, rfl, by decide +kernel, rfl, by decide +kernel, by decide +kernel⟩
theorem len_law_lines (ds : List D) (M : Mp) (Q : Q1) (h : sp_law_lines ds M Q) : ds.length = p_law_lines.length := by
  first
    | (obtain ⟨_, rfl, _⟩ := h; rfl)
    | (obtain ⟨_, _, rfl, _⟩ := h; rfl)
    | (obtain ⟨_, _, _, rfl, _⟩ := h; rfl)
    | (obtain ⟨_, _, _, _, rfl, _⟩ := h; rfl)
    | (obtain ⟨_, _, _, _, _, rfl, _⟩ := h; rfl)
    | (obtain ⟨_, _, _, _, _, _, rfl, _⟩ := h; rfl)
    | (obtain ⟨_, _, _, _, _, _, _, rfl, _⟩ := h; rfl)
    | (obtain ⟨_, _, _, _, _, _, _, _, rfl, _⟩ := h; rfl)
    | (obtain ⟨_, _, _, _, _, _, _, _, _, rfl, _⟩ := h; rfl)
    | (obtain ⟨_, _, _, _, _, _, _, _, _, _, rfl, _⟩ := h; rfl)
    | (obtain ⟨_, _, _, _, _, _, _, _, _, _, _, rfl, _⟩ := h; rfl)
    | (obtain ⟨_, _, _, _, _, _, _, _, _, _, _, _, rfl, _⟩ := h; rfl)
    | (obtain ⟨_, _, _, _, _, _, _, _, _, _, _, _, _, rfl, _⟩ := h; rfl)
def d_law_lines : He.DefD := ⟨("_law_lines", none), "_law_lines", "_law_lines", defArgs s_law_lines, defBody s_law_lines, defScope s_law_lines, [], []⟩
abbrev L_law_lines : List (Str × RC') := ("_law_lines", sp_law_lines) :: L_law_pick
abbrev s_law : Stmt := top 9
theorem link_law : wB (gm L_law_lines [] []) (rd (gm L_law_lines [] []) 60) ⟨n_law, defScope s_law, fun _ => true⟩ 100 (defBody s_law) = r_law := by kernel_rfl
abbrev p_law : List Str := ["_law_script"]
theorem sc_law : FnScope n_law p_law (defScope s_law) := ⟨rfl, rfl, rfl, by decide +kernel, rfl, by decide +kernel, by decide +kernel⟩
theorem len_law (ds : List D) (M : Mp) (Q : Q1) (h : sp_law ds M Q) : ds.length = p_law.length := by
  first
    | (obtain ⟨_, rfl, _⟩ := h; rfl)
    | (obtain ⟨_, _, rfl, _⟩ := h; rfl)
    | (obtain ⟨_, _, _, rfl, _⟩ := h; rfl)
    | (obtain ⟨_, _, _, _, rfl, _⟩ := h; rfl)
    | (obtain ⟨_, _, _, _, _, rfl, _⟩ := h; rfl)
    | (obtain ⟨_, _, _, _, _, _, rfl, _⟩ := h; rfl)
    | (obtain ⟨_, _, _, _, _, _, _, rfl, _⟩ := h; rfl)
    | (obtain ⟨_, _, _, _, _, _, _, _, rfl, _⟩ := h; rfl)
    | (obtain ⟨_, _, _, _, _, _, _, _, _, rfl, _⟩ := h; rfl)
    | (obtain ⟨_, _, _, _, _, _, _, _, _, _, rfl, _⟩ := h; rfl)
    | (obtain ⟨_, _, _, _, _, _, _, _, _, _, _, rfl, _⟩ := h; rfl)
    | (obtain ⟨_, _, _, _, _, _, _, _, _, _, _, _, rfl, _⟩ := h; rfl)
    | (obtain ⟨_, _, _, _, _, _, _, _, _, _, _, _, _, rfl, _⟩ := h; rfl)
def d_law : He.DefD := ⟨("law", none), "law", "law", defArgs s_law, defBody s_law, defScope s_law, [], []⟩
abbrev L_law : List (Str × RC') := ("law", sp_law) :: L_law_lines
def fn : List He.DefD := [d_rows_of, d_profile, d_law_cell, d_law_digits, d_law_drawB, d_law_pick, d_law_lines, d_law]
def gl : List He.Fa := [.glo "rows_of", .glo "profile", .glo "_law_cell", .glo "_law_digits", .glo "_law_draw", .glo "_law_pick", .glo "_law_lines", .glo "law"]
abbrev fa : List He.Fa := bnames.map He.Fa.free ++ gl
abbrev R : PySem.W.OpenRow := PySem.W.OpenLaw.row PySem.Challenge.rw_truelevels_k34_profile_is_drawn
abbrev hk : PySem.W.Hook := He.hookD 4 fa fn
def ob (t : PySem.W.SharedT) : He.AlD := He.obsDG 4 fa fn (HandSHeadRun.getT t)
theorem obEq (t : PySem.W.SharedT) : ob t = hk.obs t.abs := He.obsDG_eq (HandSHeadRun.getT_eq t)
def loose0 : List Str := ["rows_of", "profile", "_law_cell", "_law_digits", "_law_draw", "_law_pick", "_law_lines"]
abbrev loose : List Str := loose0
theorem run (w : World) : HandSHeadRun.RunEq R (PySem.W.view R.prog [9]) hk ob 4000 loose w := by
  intro os; kernel_rfl
theorem facts {w : World} {K : PySem.W.Frag} {h : Heap} {mg : Str → Option Value} {f : Addr} (X : K.In h) (G : h.Ns mainGlobals mg) (hfa : mg ("law" : Str) = some (.ref f)) (c : He.SaysD fa fn K) :
    ∃ fd : FuncData, (∀ (s : Shared) (v : Value), BindsTo s fd ⟨[v], []⟩ [("_law_script", v)]) ∧ ∀ base : Heap, K.In base → base.Ns mainGlobals mg → Fn PySem.Challenge.rw_truelevels_k34_profile_is_drawn.prog w K mg base 8 f fd ["_law_script"] sp_law := by
  have fr : Free mg := free_all c X G
  obtain ⟨e_rows_of, D_rows_of⟩ := c.def_ 0 (d := d_rows_of) rfl
  have g_rows_of := glo_at c X G 0 (x := "rows_of") rfl
  have b_rows_of : Binds K e_rows_of p_rows_of [] := D_rows_of.bindsN fun _ _ _ _ _ _ us hl => match us, hl with | [_, _], _ => rfl
  obtain ⟨e_profile, D_profile⟩ := c.def_ 1 (d := d_profile) rfl
  have g_profile := glo_at c X G 1 (x := "profile") rfl
  have b_profile : Binds K e_profile p_profile [] := D_profile.bindsN fun _ _ _ _ _ _ us hl => match us, hl with | [_, _], _ => rfl
  obtain ⟨e_law_cell, D_law_cell⟩ := c.def_ 2 (d := d_law_cell) rfl
  have g_law_cell := glo_at c X G 2 (x := "_law_cell") rfl
  have b_law_cell : Binds K e_law_cell p_law_cell [] := D_law_cell.bindsN fun _ _ _ _ _ _ us hl => match us, hl with | [_, _], _ => rfl
  obtain ⟨e_law_digits, D_law_digits⟩ := c.def_ 3 (d := d_law_digits) rfl
  have g_law_digits := glo_at c X G 3 (x := "_law_digits") rfl
  have b_law_digits : Binds K e_law_digits p_law_digits [] := D_law_digits.bindsN fun _ _ _ _ _ _ us hl => match us, hl with | [_, _, _], _ => rfl
  obtain ⟨e_law_drawB, D_law_drawB⟩ := c.def_ 4 (d := d_law_drawB) rfl
  have g_law_drawB := glo_at c X G 4 (x := "_law_draw") rfl
  have b_law_drawB : Binds K e_law_drawB p_law_drawB [] := D_law_drawB.bindsN fun _ _ _ _ _ _ us hl => match us, hl with | [_, _], _ => rfl
  obtain ⟨e_law_pick, D_law_pick⟩ := c.def_ 5 (d := d_law_pick) rfl
  have g_law_pick := glo_at c X G 5 (x := "_law_pick") rfl
  have b_law_pick : Binds K e_law_pick p_law_pick [] := D_law_pick.bindsN fun _ _ _ _ _ _ us hl => match us, hl with | [_, _], _ => rfl
  obtain ⟨e_law_lines, D_law_lines⟩ := c.def_ 6 (d := d_law_lines) rfl
  have g_law_lines := glo_at c X G 6 (x := "_law_lines") rfl
  have b_law_lines : Binds K e_law_lines p_law_lines [] := D_law_lines.bindsN fun _ _ _ _ _ _ us hl => match us, hl with | [_, _], _ => rfl
  obtain ⟨e_law, D_law⟩ := c.def_ 7 (d := d_law) rfl
  have g_law := glo_at c X G 7 (x := "law") rfl
  cases hfa.symm.trans g_law
  refine ⟨e_law, fun t v => FunD.bindsA (ps := p_law) D_law (fun _ _ _ _ _ _ us hl => match us, hl with | [_], _ => rfl) t [v] rfl, fun base _ _ => ?_⟩
  have a0 : AllC PySem.Challenge.rw_truelevels_k34_profile_is_drawn.prog w K mg base 0 blts := blts_ok fr
  have a1 : AllC PySem.Challenge.rw_truelevels_k34_profile_is_drawn.prog w K mg base 1 L_rows_of := a0.add (call_of D_rows_of sc_rows_of (gm_ok fr a0 .nil .nil) len_rows_of (fun ds M Q k => run_of link_rows_of (v_rows_of ds M Q k)) g_rows_of b_rows_of (by decide))
  have a2 : AllC PySem.Challenge.rw_truelevels_k34_profile_is_drawn.prog w K mg base 2 L_profile := a1.add (call_of D_profile sc_profile (gm_ok fr a1 .nil .nil) len_profile (fun ds M Q k => run_of link_profile (v_profile ds M Q k)) g_profile b_profile (by decide))
  have a3 : AllC PySem.Challenge.rw_truelevels_k34_profile_is_drawn.prog w K mg base 3 L_law_cell := a2.add (call_of D_law_cell sc_law_cell (gm_ok fr a2 .nil .nil) len_law_cell (fun ds M Q k => run_of link_law_cell (v_law_cell ds M Q k)) g_law_cell b_law_cell (by decide))
  have a4 : AllC PySem.Challenge.rw_truelevels_k34_profile_is_drawn.prog w K mg base 4 L_law_digits := a3.add (call_of D_law_digits sc_law_digits (gm_ok fr a3 .nil .nil) len_law_digits (fun ds M Q k => run_of link_law_digits (v_law_digits ds M Q k)) g_law_digits b_law_digits (by decide))
  have a5 : AllC PySem.Challenge.rw_truelevels_k34_profile_is_drawn.prog w K mg base 5 L_law_drawB := a4.add (call_of D_law_drawB sc_law_drawB (gm_ok fr a4 .nil .nil) len_law_drawB (fun ds M Q k => run_of link_law_drawB (v_law_drawB ds M Q k)) g_law_drawB b_law_drawB (by decide))
  have a6 : AllC PySem.Challenge.rw_truelevels_k34_profile_is_drawn.prog w K mg base 6 L_law_pick := a5.add (call_of D_law_pick sc_law_pick (gm_ok fr a5 .nil .nil) len_law_pick (fun ds M Q k => run_of link_law_pick (v_law_pick ds M Q k)) g_law_pick b_law_pick (by decide))
  have a7 : AllC PySem.Challenge.rw_truelevels_k34_profile_is_drawn.prog w K mg base 7 L_law_lines := a6.add (call_of D_law_lines sc_law_lines (gm_ok fr a6 .nil .nil) len_law_lines (fun ds M Q k => run_of link_law_lines (v_law_lines ds M Q k)) g_law_lines b_law_lines (by decide))
  exact fn_body D_law sc_law (gm_ok fr a7 .nil .nil) len_law (fun ds M Q k => run_of link_law (v_law ds M Q k))
end Zk34
open PySem PySem.W PySem.Calls PyProof.Rows
theorem PySem.Challenge.cw_truelevels_k34_profile_is_drawn_holds : PySem.Challenge.rw_truelevels_k34_profile_is_drawn.Holds := by
  w_on; o_law
  refine HandSHeadRun.head_any (r := Zk34.R) (q := view Zk34.R.prog [9]) (H := Zk34.hk) (ob := Zk34.ob) (M := 4000) (loose := Zk34.loose)
    (d := HandSHeadRun.topDef Zk34.R.prog 9) (kwd := []) Zk34.obEq (by kernel_rfl)
    (fun t => by kernel_rfl) Zk34.run (by kernel_rfl) (by kernel_rfl)
    (by kernel_rfl) (by rfl)
    (by first | assumption | decide +kernel) (by decide +kernel)
    ⟨rfl, rfl, rfl, rfl, rfl, by decide +kernel⟩ ?hw ?hc
  case hw => w_witness2
  case hc =>
    refine Pw.walk_fn (l := PySem.Challenge.rw_truelevels_k34_profile_is_drawn) (n := 63) (k := 8) (x := "_law_script") rfl (by decide)
      (by kernel_rfl) ⟨rfl, by decide, by decide⟩ ?F
    rintro w mg fa h ⟨K, KX, c⟩ G hm
    have en : (HandSHeadRun.topDef Zk34.R.prog 9).name = ("law" : PySem.Str) := by kernel_rfl
    rw [en] at hm
    obtain ⟨fd, hb, hF⟩ := Zk34.facts (w := w) KX G hm c
    exact ⟨K, fd, Pw.sp_law, KX, hb, fun a ns M hl => ⟨a, ns, rfl, fun _ => rfl⟩, hF⟩

