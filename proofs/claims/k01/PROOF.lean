import PyProof.Rows.All
import Wide.All
import OpenK.AllK
import Wide.FinOn
import HandS.ForMost
import HandS.Wide
import HandS.Gcd
import HandS.Style
import HandS.IsInst
import HandS.Defaults
import HandS.NoneIn
import PySem.Challenge.RW_ohmwide_k01_whole_fractions_as_a_field
set_option Elab.async false
set_option linter.all false
set_option maxRecDepth 100000
set_option maxHeartbeats 4000000
/-! A layer of values over HandS: what stands in the heap is told as data; lists that a def changes are owned by one slot. -/
namespace DL
open PySem L2

/-- built-in classes that are named as values -/
inductive Ty where
  | int | bool | str | list | tuple | dict | set | float | bytes
def Ty.name : Ty → String
  | .int => "int" | .bool => "bool" | .str => "str" | .list => "list" | .tuple => "tuple" | .dict => "dict" | .set => "set" | .float => "float" | .bytes => "bytes"
/-- data -/
inductive D where
  | non | bl (b : Bool) | int (i : Int) | str (x : Str) | tup (l : List D) | lst (l : List D) | fz (l : List D) | ty (t : Ty)

/-- a tuple of the written part -/
def WrT (K : PySem.W.Frag) (a : Addr) (xs : List V) : Prop :=
  ∃ (o : Obj) (its : Array Value) (n : Nat), K.lookup a = some o ∧ o.cls = .type "tuple" ∧ o.data = .seq its n ∧ its.size ≤ sizeLine ∧ Vals xs its.toList

/-- a list of the written part -/
def WrL (K : PySem.W.Frag) (a : Addr) (xs : List V) : Prop :=
  ∃ (o : Obj) (its : Array Value) (n : Nat), K.lookup a = some o ∧ o.cls = .type "list" ∧ o.dict = none ∧ o.data = .seq its n ∧ its.size ≤ sizeLine ∧ Vals xs its.toList

mutual
def Rp (K : PySem.W.Frag) (H : Hp) (M : Addr → Prop) : D → V → Prop
  | .non, v => v = .non
  | .bl b, v => v = .bl b
  | .int i, v => v = .int i
  | .str x, v => v = .str x
  | .tup l, v => ∃ a vs, v = .ref a ∧ ((Rd H a (.tup vs) ∧ ¬ M a) ∨ WrT K a vs) ∧ RpA K H M l vs
  | .lst l, v => ∃ a vs, v = .ref a ∧ H a = some (.lst vs) ∧ ¬ M a ∧ RpA K H M l vs
  | .fz l, v => ∃ a vs, v = .ref a ∧ ((Rd H a (.lst vs) ∧ ¬ M a) ∨ WrL K a vs) ∧ RpA K H M l vs
  | .ty t, v => v = .ty t.name
def RpA (K : PySem.W.Frag) (H : Hp) (M : Addr → Prop) : List D → List V → Prop
  | [], vs => vs = []
  | d :: ds, vs => ∃ v r, vs = v :: r ∧ Rp K H M d v ∧ RpA K H M ds r
end

def Keep (M : Addr → Prop) (H H' : Hp) : Prop := ∀ b o, H b = some o → ¬ M b → H' b = some o
theorem Keep.refl {M H} : Keep M H H := fun _ _ h _ => h
theorem Keep.rd {M : Addr → Prop} {H H' : Hp} (k : Keep M H H') {a : Addr} {u : HO} (h : Rd H a u) (n : ¬ M a) : Rd H' a u := by
  rcases h with h | ⟨o, h⟩
  · exact .inl (k _ _ h n)
  · exact .inr ⟨o, k _ _ h n⟩

section
variable {K : PySem.W.Frag} {H H' : Hp} {M M' : Addr → Prop}
mutual
/-- data stay where the heap changes at M alone; they may be told away from less -/
theorem Rp.keep (k : Keep M H H') (s : ∀ a, M' a → M a) : ∀ (d : D) (v : V), Rp K H M d v → Rp K H' M' d v
  | .non, _, h => h
  | .bl _, _, h => h
  | .int _, _, h => h
  | .str _, _, h => h
  | .ty _, _, h => h
  | .tup l, v, h => by
    obtain ⟨a, vs, e, q, r⟩ := h
    refine ⟨a, vs, e, ?_, RpA.keep k s l vs r⟩
    rcases q with ⟨q, n⟩ | q
    · exact .inl ⟨k.rd q n, fun z => n (s _ z)⟩
    · exact .inr q
  | .lst l, v, h => by
    obtain ⟨a, vs, e, q, n, r⟩ := h
    exact ⟨a, vs, e, k _ _ q n, fun z => n (s _ z), RpA.keep k s l vs r⟩
  | .fz l, v, h => by
    obtain ⟨a, vs, e, q, r⟩ := h
    refine ⟨a, vs, e, ?_, RpA.keep k s l vs r⟩
    rcases q with ⟨q, n⟩ | q
    · exact .inl ⟨k.rd q n, fun z => n (s _ z)⟩
    · exact .inr q
theorem RpA.keep (k : Keep M H H') (s : ∀ a, M' a → M a) : ∀ (ds : List D) (vs : List V), RpA K H M ds vs → RpA K H' M' ds vs
  | [], _, h => h
  | d :: ds, vs, h => by
    obtain ⟨v, r, e, h1, h2⟩ := h
    exact ⟨v, r, e, Rp.keep k s d v h1, RpA.keep k s ds r h2⟩
end
mutual
/-- a new address may be told as one that data stay away from -/
theorem Rp.fresh {p : Addr} (hp : H p = none) : ∀ (d : D) (v : V), Rp K H M d v → Rp K H (fun b => M b ∨ b = p) d v
  | .non, _, h => h
  | .bl _, _, h => h
  | .int _, _, h => h
  | .str _, _, h => h
  | .ty _, _, h => h
  | .tup l, v, h => by
    obtain ⟨a, vs, e, q, r⟩ := h
    refine ⟨a, vs, e, ?_, RpA.fresh hp l vs r⟩
    rcases q with ⟨q, n⟩ | q
    · refine .inl ⟨q, fun z => z.elim n fun z => ?_⟩
      subst z
      rcases q with q | ⟨o, q⟩ <;> rw [hp] at q <;> cases q
    · exact .inr q
  | .lst l, v, h => by
    obtain ⟨a, vs, e, q, n, r⟩ := h
    refine ⟨a, vs, e, q, fun z => z.elim n fun z => ?_, RpA.fresh hp l vs r⟩
    subst z
    rw [hp] at q
    cases q
  | .fz l, v, h => by
    obtain ⟨a, vs, e, q, r⟩ := h
    refine ⟨a, vs, e, ?_, RpA.fresh hp l vs r⟩
    rcases q with ⟨q, n⟩ | q
    · refine .inl ⟨q, fun z => z.elim n fun z => ?_⟩
      subst z
      rcases q with q | ⟨o, q⟩ <;> rw [hp] at q <;> cases q
    · exact .inr q
theorem RpA.fresh {p : Addr} (hp : H p = none) : ∀ (ds : List D) (vs : List V), RpA K H M ds vs → RpA K H (fun b => M b ∨ b = p) ds vs
  | [], _, h => h
  | d :: ds, vs, h => by
    obtain ⟨v, r, e, h1, h2⟩ := h
    exact ⟨v, r, e, Rp.fresh hp d v h1, RpA.fresh hp ds r h2⟩
end
end

/-- what a slot holds: data, or a list that it owns (the k-th parameter's own, or one of the def's own making) -/
inductive W where
  | imm (d : D) | own (k : Option Nat) (l : List D)

/-- a running def: the heap at its entry, the addresses that data may not lead to, its arguments, those that it may change -/
structure Fm where
  H0 : Hp
  B : Addr → Prop
  pa : List V
  ad : List Addr

def ownA : List (V × W) → List Addr
  | [] => []
  | (.ref a, .own _ _) :: r => a :: ownA r
  | _ :: r => ownA r
theorem ownA_imm {v : V} {d : D} {r : List (V × W)} : ownA ((v, .imm d) :: r) = ownA r := by
  cases v <;> rfl
theorem ownA_own {a : Addr} {k : Option Nat} {l : List D} {r : List (V × W)} : ownA ((.ref a, .own k l) :: r) = a :: ownA r := rfl
theorem ownA_app (x y : List (V × W)) : ownA (x ++ y) = ownA x ++ ownA y := by
  induction x with
  | nil => rfl
  | cons p x ih =>
    obtain ⟨v, w⟩ := p
    cases w with
    | imm d => rw [List.cons_append, ownA_imm, ownA_imm, ih]
    | own k l =>
      cases v with
      | ref a => rw [List.cons_append, ownA_own, ownA_own, ih, List.cons_append]
      | _ => exact ih
theorem ownA_mem {b : Addr} : ∀ {x : List (V × W)}, b ∈ ownA x ↔ ∃ k l, (V.ref b, W.own k l) ∈ x
  | [] => by simp [ownA]
  | (v, .imm d) :: r => by
    rw [ownA_imm, ownA_mem (x := r)]
    simp
  | (.ref a, .own k l) :: r => by
    rw [ownA_own, List.mem_cons, ownA_mem (x := r)]
    constructor
    · rintro (h | ⟨k', l', h⟩)
      · exact ⟨k, l, by rw [h]; exact List.mem_cons_self⟩
      · exact ⟨k', l', List.mem_cons_of_mem _ h⟩
    · rintro ⟨k', l', h⟩
      rcases List.mem_cons.mp h with h | h
      · cases h; exact .inl rfl
      · exact .inr ⟨k', l', h⟩
  | (.non, .own k l) :: r => by
    show b ∈ ownA r ↔ _
    rw [ownA_mem (x := r)]; simp
  | (.bl _, .own k l) :: r => by
    show b ∈ ownA r ↔ _
    rw [ownA_mem (x := r)]; simp
  | (.int _, .own k l) :: r => by
    show b ∈ ownA r ↔ _
    rw [ownA_mem (x := r)]; simp
  | (.str _, .own k l) :: r => by
    show b ∈ ownA r ↔ _
    rw [ownA_mem (x := r)]; simp
  | (.byt _, .own k l) :: r => by
    show b ∈ ownA r ↔ _
    rw [ownA_mem (x := r)]; simp
  | (.flt _, .own k l) :: r => by
    show b ∈ ownA r ↔ _
    rw [ownA_mem (x := r)]; simp
  | (.ty _, .own k l) :: r => by
    show b ∈ ownA r ↔ _
    rw [ownA_mem (x := r)]; simp
theorem ownA_perm {x y : List (V × W)} (h : x.Perm y) : (ownA x).Perm (ownA y) := by
  induction h with
  | nil => exact .nil
  | cons p _ ih =>
    obtain ⟨v, w⟩ := p
    cases w with
    | imm d => rw [ownA_imm, ownA_imm]; exact ih
    | own k l =>
      cases v with
      | ref a => exact ih.cons a
      | _ => exact ih
  | swap p q r =>
    have : ∀ l : List (V × W), ownA l = l.flatMap fun p => ownA [p] := by
      intro l
      induction l with
      | nil => rfl
      | cons p l ih =>
        rw [List.flatMap_cons, ← ih]
        exact ownA_app [p] l
    rw [this, this]
    exact List.Perm.flatMap_right _ (.swap p q r)
  | trans _ _ a b => exact a.trans b
theorem ownA_sub {x y : List (V × W)} (h : x.Sublist y) : (ownA x).Sublist (ownA y) := by
  induction h with
  | slnil => exact .slnil
  | cons p _ ih =>
    refine ih.trans ?_
    rw [show ∀ l, p :: l = [p] ++ l from fun _ => rfl, ownA_app]
    exact List.sublist_append_right _ _
  | @cons_cons l1 l2 p _ ih =>
    rw [show p :: l1 = [p] ++ l1 from rfl, show p :: l2 = [p] ++ l2 from rfl, ownA_app, ownA_app]
    exact List.Sublist.append_left ih _

def Mm (Φ : Fm) (inv : List (V × W)) : Addr → Prop := fun b => Φ.B b ∨ b ∈ ownA inv
def Rw (K : PySem.W.Frag) (H : Hp) (Φ : Fm) (M : Addr → Prop) (v : V) : W → Prop
  | .imm d => Rp K H M d v
  | .own k l => ∃ a vs, v = .ref a ∧ H a = some (.lst vs) ∧ RpA K H M l vs ∧ (match k with
    | some j => Φ.pa[j]? = some (.ref a) ∧ a ∈ Φ.ad
    | none => Φ.H0 a = none)
/-- the ground: what the def holds stands so in the heap -/
structure G (K : PySem.W.Frag) (Φ : Fm) (inv : List (V × W)) (H : Hp) : Prop where
  keep : ∀ b o, Φ.H0 b = some o → b ∉ Φ.ad → H b = some o
  dom : ∀ b, Φ.H0 b ≠ none → H b ≠ none
  bd : ∀ b, Φ.B b → Φ.H0 b ≠ none
  nd : (ownA inv).Nodup
  all : ∀ p ∈ inv, Rw K H Φ (Mm Φ inv) p.1 p.2
theorem Rw.keep {K : PySem.W.Frag} {H H' : Hp} {Φ : Fm} {M M' : Addr → Prop} (k : Keep M H H') (s : ∀ a, M' a → M a) {v : V} {w : W} (h : Rw K H Φ M v w) (ho : ∀ a k l, v = .ref a → w = .own k l → ∀ vs, H a = some (.lst vs) → H' a = some (.lst vs)) : Rw K H' Φ M' v w := by
  cases w with
  | imm d => exact Rp.keep k s d v h
  | own j l =>
    obtain ⟨a, vs, e, q, r, z⟩ := h
    exact ⟨a, vs, e, ho a j l e rfl vs q, RpA.keep k s l vs r, z⟩
section
variable {K : PySem.W.Frag} {Φ : Fm} {inv inv' : List (V × W)} {H H' : Hp}
theorem G.perm (g : G K Φ inv H) (p : inv'.Perm inv) : G K Φ inv' H := by
  refine ⟨g.keep, g.dom, g.bd, (ownA_perm p).nodup_iff.mpr g.nd, fun x hx => ?_⟩
  refine (g.all x (p.mem_iff.mp hx)).keep Keep.refl (fun a h => ?_) fun _ _ _ _ _ _ h => h
  exact h.imp id fun h => (ownA_perm p).mem_iff.mp h
theorem G.sub (g : G K Φ inv H) (p : inv'.Sublist inv) : G K Φ inv' H := by
  refine ⟨g.keep, g.dom, g.bd, g.nd.sublist (ownA_sub p), fun x hx => ?_⟩
  refine (g.all x (p.subset hx)).keep Keep.refl (fun a h => ?_) fun _ _ _ _ _ _ h => h
  exact h.imp id fun h => (ownA_sub p).subset h
theorem G.subp {m : List (V × W)} (g : G K Φ inv H) (p : inv'.Sublist m) (q : m.Perm inv) : G K Φ inv' H := (g.perm q).sub p
/-- data that are known come in -/
theorem G.push {v : V} {d : D} (g : G K Φ inv H) (h : Rp K H (Mm Φ inv) d v) : G K Φ ((v, .imm d) :: inv) H := by
  have e : Mm Φ ((v, .imm d) :: inv) = Mm Φ inv := by unfold Mm; rw [ownA_imm]
  refine ⟨g.keep, g.dom, g.bd, by rw [ownA_imm]; exact g.nd, fun x hx => ?_⟩
  rw [e]
  rcases List.mem_cons.mp hx with rfl | hx
  · exact h
  · exact g.all x hx
theorem G.untracked (g : G K Φ inv H) {p : Addr} (hp : H p = none) : ¬ Mm Φ inv p := by
  rintro (h | h)
  · exact g.dom p (g.bd p h) hp
  · obtain ⟨k, l, h⟩ := ownA_mem.mp h
    obtain ⟨a, vs, e, q, _⟩ := g.all _ h
    cases e
    rw [hp] at q
    cases q
theorem keep_upd {M : Addr → Prop} {p : Addr} {o : HO} (hp : H p = none) : Keep M H (upd H p o) := fun b u h _ => by
  rw [upd_ne (ne_of_none h hp)]; exact h
/-- a new object that is no list -/
theorem G.laid (g : G K Φ inv H) {p : Addr} {o : HO} (hp : H p = none) : G K Φ inv (upd H p o) := by
  refine ⟨fun b u h n => keep_upd (M := fun _ => False) hp b u (g.keep b u h n) id, fun b h => ?_, g.bd, g.nd, fun x hx => ?_⟩
  · by_cases e : b = p
    · subst e; rw [upd_same]; simp
    · rw [upd_ne e]; exact g.dom b h
  · exact (g.all x hx).keep (keep_upd hp) (fun _ h => h) fun a k l _ _ vs h => keep_upd (M := fun _ => False) hp a _ h id
theorem G.tup (g : G K Φ inv H) {p : Addr} {ds : List D} {vs : List V} (hp : H p = none) (h : RpA K H (Mm Φ inv) ds vs) : G K Φ ((.ref p, .imm (.tup ds)) :: inv) (upd H p (.tup vs)) :=
  (g.laid hp).push ⟨p, vs, rfl, .inl ⟨.inl upd_same, g.untracked hp⟩, RpA.keep (keep_upd hp) (fun _ h => h) ds vs h⟩
theorem G.lst (g : G K Φ inv H) {p : Addr} {ds : List D} {vs : List V} (hp : H p = none) (h : RpA K H (Mm Φ inv) ds vs) : G K Φ ((.ref p, .own none ds) :: inv) (upd H p (.lst vs)) := by
  have g1 := g.laid (o := .lst vs) hp
  have e : ∀ b, Mm Φ ((.ref p, .own none ds) :: inv) b → Mm Φ inv b ∨ b = p := fun b h => by
    rcases h with h | h
    · exact .inl (.inl h)
    · rw [ownA_own] at h
      rcases List.mem_cons.mp h with h | h
      · exact .inr h
      · exact .inl (.inr h)
  have p0 : Φ.H0 p = none := by
    cases q : Φ.H0 p with
    | none => rfl
    | some o => exact absurd hp (g.dom p (by rw [q]; simp))
  refine ⟨g1.keep, g1.dom, g1.bd, ?_, fun x hx => ?_⟩
  · rw [ownA_own]
    exact List.nodup_cons.mpr ⟨fun h => g.untracked hp (.inr h), g.nd⟩
  · rcases List.mem_cons.mp hx with rfl | hx
    · exact ⟨p, vs, rfl, upd_same, RpA.keep Keep.refl e ds vs (RpA.keep (M' := fun b => Mm Φ inv b ∨ b = p) (keep_upd hp) (fun _ h => h) ds vs (RpA.fresh hp ds vs h)), p0⟩
    · have hx := g.all x hx
      obtain ⟨v, w⟩ := x
      cases w with
      | imm d => exact Rp.keep Keep.refl e d v (Rp.keep (M' := fun b => Mm Φ inv b ∨ b = p) (keep_upd hp) (fun _ h => h) d v (Rp.fresh hp d v hx))
      | own k l =>
        obtain ⟨a, us, e1, q, r, z⟩ := hx
        exact ⟨a, us, e1, keep_upd (M := fun _ => False) hp a _ q id, RpA.keep Keep.refl e l us (RpA.keep (M' := fun b => Mm Φ inv b ∨ b = p) (keep_upd hp) (fun _ h => h) l us (RpA.fresh hp l us r)), z⟩
/-- an owned list is given up: from here on it is data -/
theorem G.share {v : V} {k : Option Nat} {l : List D} (g : G K Φ ((v, .own k l) :: inv) H) (hk : k = none) : G K Φ ((v, .imm (.lst l)) :: inv) H := by
  obtain ⟨a, vs, e, q, r, z⟩ := g.all _ List.mem_cons_self
  have e : v = .ref a := e
  subst e hk
  have hs : ∀ b, Mm Φ inv b → Mm Φ ((V.ref a, W.own none l) :: inv) b := fun b h => h.imp id fun h => by
    rw [ownA_own]; exact List.mem_cons_of_mem _ h
  have nd := g.nd
  rw [ownA_own] at nd
  have na : ¬ Mm Φ inv a := by
    rintro (h | h)
    · exact g.bd a h z
    · exact (List.nodup_cons.mp nd).1 h
  have g2 : G K Φ inv H := g.sub (List.sublist_cons_self _ _)
  exact g2.push ⟨a, vs, rfl, q, na, RpA.keep Keep.refl hs l vs r⟩
/-- an owned list is written -/
theorem G.write {a : Addr} {k : Option Nat} {l l' : List D} {vs' : List V} (g : G K Φ ((.ref a, .own k l) :: inv) H) (h : RpA K H (Mm Φ ((.ref a, .own k l) :: inv)) l' vs') : G K Φ ((.ref a, .own k l') :: inv) (upd H a (.lst vs')) := by
  obtain ⟨a', vs, e, q, r, z⟩ := g.all _ List.mem_cons_self
  cases e
  have eM : Mm Φ ((.ref a, .own k l') :: inv) = Mm Φ ((.ref a, .own k l) :: inv) := by unfold Mm; rw [ownA_own, ownA_own]
  have inM : Mm Φ ((.ref a, .own k l) :: inv) a := .inr (by rw [ownA_own]; exact List.mem_cons_self)
  have kp : Keep (Mm Φ ((.ref a, .own k l) :: inv)) H (upd H a (.lst vs')) := fun b o h n => by
    rw [upd_ne (fun e => n (by rw [e]; exact inM))]; exact h
  have nd := g.nd
  rw [ownA_own] at nd
  refine ⟨fun b o hb n => ?_, fun b h => ?_, g.bd, by rw [ownA_own]; exact nd, fun x hx => ?_⟩
  · have nb : b ≠ a := fun e => by
      subst e
      cases k with
      | none => rw [show Φ.H0 b = none from z] at hb; cases hb
      | some j => exact n z.2
    rw [upd_ne nb]
    exact g.keep b o hb n
  · by_cases e : b = a
    · subst e; rw [upd_same]; simp
    · rw [upd_ne e]; exact g.dom b h
  · rw [eM]
    rcases List.mem_cons.mp hx with rfl | hx'
    · exact ⟨a, vs', rfl, upd_same, RpA.keep kp (fun _ h => h) l' vs' h, z⟩
    · clear hx
      have hx := hx'
      refine (g.all x (List.mem_cons_of_mem _ hx)).keep kp (fun _ h => h) fun b j m e1 e2 us hb => ?_
      rw [upd_ne]
      · exact hb
      · intro e
        subst e
        obtain ⟨v, w⟩ := x
        cases e1
        cases e2
        exact (List.nodup_cons.mp nd).1 (ownA_mem.mpr ⟨j, m, hx⟩)
/-- what lies at an owned list -/
theorem G.own {v : V} {k : Option Nat} {l : List D} (g : G K Φ inv H) (h : (v, W.own k l) ∈ inv) : ∃ a vs, v = .ref a ∧ H a = some (.lst vs) ∧ RpA K H (Mm Φ inv) l vs := by
  obtain ⟨a, vs, e, q, r, _⟩ := g.all _ h
  exact ⟨a, vs, e, q, r⟩
theorem G.imm {v : V} {d : D} (g : G K Φ inv H) (h : (v, W.imm d) ∈ inv) : Rp K H (Mm Φ inv) d v := g.all _ h
end

/-! ### slots -/
abbrev DSt := List (Option W)
/-- the slots hold what is told of them -/
def SR : St → DSt → Prop
  | [], [] => True
  | _ :: σ, none :: δ => SR σ δ
  | some _ :: σ, some _ :: δ => SR σ δ
  | _, _ => False
def ent : St → DSt → List (V × W)
  | some v :: σ, some w :: δ => (v, w) :: ent σ δ
  | _ :: σ, _ :: δ => ent σ δ
  | _, _ => []
theorem SR.len : ∀ {σ : St} {δ : DSt}, SR σ δ → σ.length = δ.length
  | [], [], _ => rfl
  | _ :: σ, none :: δ, h => by
    have h : SR σ δ := by cases ‹Option V› <;> exact h
    simp [h.len]
  | some _ :: σ, some _ :: δ, h => by
    have h : SR σ δ := h
    simp [h.len]
  | none :: _, some _ :: _, h => h.elim
  | [], _ :: _, h => h.elim
  | _ :: _, [], h => by cases ‹Option V› <;> exact h.elim
theorem SR.set_none : ∀ {σ : St} {δ : DSt} (i : Nat) (o : Option V), SR σ δ → SR (σ.set i o) (δ.set i none)
  | [], [], _, _, _ => trivial
  | v :: σ, none :: δ, 0, o, h => by
    have h : SR σ δ := by cases v <;> exact h
    show SR (o :: σ) (none :: δ)
    cases o <;> exact h
  | some v :: σ, some w :: δ, 0, o, h => by
    have h : SR σ δ := h
    show SR (o :: σ) (none :: δ)
    cases o <;> exact h
  | v :: σ, none :: δ, i + 1, o, h => by
    have h : SR σ δ := by cases v <;> exact h
    show SR (v :: σ.set i o) (none :: δ.set i none)
    have := h.set_none i o
    cases v <;> exact this
  | some v :: σ, some w :: δ, i + 1, o, h => by
    have h : SR σ δ := h
    exact h.set_none i o
  | none :: _, some _ :: _, _, _, h => h.elim
  | [], _ :: _, _, _, h => h.elim
  | v :: _, [], _, _, h => by cases v <;> exact h.elim
theorem SR.set : ∀ {σ : St} {δ : DSt} (i : Nat) (v : V) (w : W), SR σ δ → SR (σ.set i (some v)) (δ.set i (some w))
  | [], [], _, _, _, _ => trivial
  | u :: σ, none :: δ, 0, v, w, h => by
    have h : SR σ δ := by cases u <;> exact h
    exact h
  | some u :: σ, some _ :: δ, 0, v, w, h => h
  | u :: σ, none :: δ, i + 1, v, w, h => by
    have h : SR σ δ := by cases u <;> exact h
    have := h.set i v w
    show SR (u :: σ.set i (some v)) (none :: δ.set i (some w))
    cases u <;> exact this
  | some u :: σ, some _ :: δ, i + 1, v, w, h => by
    have h : SR σ δ := h
    exact h.set i v w
  | none :: _, some _ :: _, _, _, _, h => h.elim
  | [], _ :: _, _, _, _, h => h.elim
  | v :: _, [], _, _, _, h => by cases v <;> exact h.elim
theorem SR.get : ∀ {σ : St} {δ : DSt} {i : Nat} {w : W}, SR σ δ → δ[i]? = some (some w) → ∃ v, σ[i]? = some (some v) ∧ (ent σ δ).Perm ((v, w) :: ent σ (δ.set i none))
  | [], [], _, _, _, e => by simp at e
  | u :: σ, none :: δ, 0, w, h, e => by simp at e
  | some u :: σ, some w' :: δ, 0, w, h, e => by
    have e : w' = w := by simpa using e
    subst e
    exact ⟨u, rfl, .refl _⟩
  | u :: σ, none :: δ, i + 1, w, h, e => by
    have h : SR σ δ := by cases u <;> exact h
    obtain ⟨v, e1, p⟩ := h.get (i := i) (w := w) (by simpa using e)
    refine ⟨v, by simpa using e1, ?_⟩
    have x1 : ent (u :: σ) (none :: δ) = ent σ δ := by cases u <;> rfl
    have x2 : ent (u :: σ) ((none :: δ).set (i + 1) none) = ent σ (δ.set i none) := by cases u <;> rfl
    rw [x1, x2]
    exact p
  | some u :: σ, some w' :: δ, i + 1, w, h, e => by
    have h : SR σ δ := h
    obtain ⟨v, e1, p⟩ := h.get (i := i) (w := w) (by simpa using e)
    refine ⟨v, by simpa using e1, ?_⟩
    show ((u, w') :: ent σ δ).Perm ((v, w) :: (u, w') :: ent σ (δ.set i none))
    exact (p.cons _).trans (.swap _ _ _)
  | none :: _, some _ :: _, _, _, h, _ => h.elim
  | [], _ :: _, _, _, h, _ => h.elim
  | v :: _, [], _, _, h, _ => by cases v <;> exact h.elim
theorem ent_set_none : ∀ (σ : St) (δ : DSt) (i : Nat) (o : Option V), ent (σ.set i o) (δ.set i none) = ent σ (δ.set i none)
  | [], [], _, _ => rfl
  | [], _ :: _, _, _ => rfl
  | v :: σ, [], i, o => by
    show ent ((v :: σ).set i o) [] = ent (v :: σ) []
    cases i <;> simp [ent]
  | v :: σ, w :: δ, 0, o => by
    show ent (o :: σ) (none :: δ) = ent (v :: σ) (none :: δ)
    cases o <;> cases v <;> rfl
  | v :: σ, w :: δ, i + 1, o => by
    show ent (v :: σ.set i o) (w :: δ.set i none) = ent (v :: σ) (w :: δ.set i none)
    have := ent_set_none σ δ i o
    cases v <;> cases w <;> simp [ent, this]
theorem ent_set {v : V} {w : W} : ∀ {σ : St} {δ : DSt} {i : Nat}, i < σ.length → SR σ δ → (ent (σ.set i (some v)) (δ.set i (some w))).Perm ((v, w) :: ent σ (δ.set i none)) := fun {σ δ i} hi h => by
  have h2 := h.set i v w
  have hi2 : i < δ.length := by rw [← h.len]; exact hi
  obtain ⟨v', e1, p⟩ := h2.get (i := i) (w := w) (by simp [hi2])
  have e2 : v' = v := by
    rw [List.getElem?_set_self hi] at e1
    cases e1
    rfl
  subst e2
  rw [List.set_set, ent_set_none] at p
  exact p

/-- the state of a body, with what is at hand beside the slots -/
structure S (K : PySem.W.Frag) (Φ : Fm) (σ : St) (δ : DSt) (τ : List (V × W)) (H : Hp) : Prop where
  sr : SR σ δ
  g : G K Φ (τ ++ ent σ δ) H
section
variable {K : PySem.W.Frag} {Φ : Fm} {σ : St} {δ : DSt} {τ τ' : List (V × W)} {H H' : Hp}
theorem S.perm (s : S K Φ σ δ τ H) (p : τ'.Perm τ) : S K Φ σ δ τ' H := ⟨s.sr, s.g.perm (p.append_right _)⟩
theorem S.sub (s : S K Φ σ δ τ H) (p : τ'.Sublist τ) : S K Φ σ δ τ' H := ⟨s.sr, s.g.sub (p.append_right _)⟩
theorem S.drop {p : V × W} (s : S K Φ σ δ (p :: τ) H) : S K Φ σ δ τ H := s.sub (List.sublist_cons_self _ _)
theorem S.push {v : V} {d : D} (s : S K Φ σ δ τ H) (h : Rp K H (Mm Φ (τ ++ ent σ δ)) d v) : S K Φ σ δ ((v, .imm d) :: τ) H := ⟨s.sr, s.g.push h⟩
theorem S.tup {p : Addr} {ds : List D} {vs : List V} (s : S K Φ σ δ τ H) (hp : H p = none) (h : RpA K H (Mm Φ (τ ++ ent σ δ)) ds vs) : S K Φ σ δ ((.ref p, .imm (.tup ds)) :: τ) (upd H p (.tup vs)) := ⟨s.sr, s.g.tup hp h⟩
theorem S.lst {p : Addr} {ds : List D} {vs : List V} (s : S K Φ σ δ τ H) (hp : H p = none) (h : RpA K H (Mm Φ (τ ++ ent σ δ)) ds vs) : S K Φ σ δ ((.ref p, .own none ds) :: τ) (upd H p (.lst vs)) := ⟨s.sr, s.g.lst hp h⟩
theorem S.share {v : V} {l : List D} (s : S K Φ σ δ ((v, .own none l) :: τ) H) : S K Φ σ δ ((v, .imm (.lst l)) :: τ) H := ⟨s.sr, s.g.share rfl⟩
/-- a slot's own list is given up -/
theorem S.shareAt {i : Nat} {l : List D} (s : S K Φ σ δ τ H) (h : δ[i]? = some (some (.own none l))) : S K Φ σ (δ.set i (some (.imm (.lst l)))) τ H := by
  obtain ⟨v, e, p⟩ := s.sr.get h
  have hi : i < σ.length := (List.getElem?_eq_some_iff.mp e).1
  have es : σ.set i (some v) = σ := by
    obtain ⟨h1, h2⟩ := List.getElem?_eq_some_iff.mp e
    rw [← h2, List.set_getElem_self]
  have g1 : G K Φ ((v, .own none l) :: (τ ++ ent σ (δ.set i none))) H := s.g.perm ((List.perm_middle.symm).trans (p.symm.append_left τ))
  have g2 := g1.share rfl
  refine ⟨?_, ?_⟩
  · have := s.sr.set i v (.imm (.lst l))
    rwa [es] at this
  · have q := ent_set (v := v) (w := .imm (.lst l)) hi s.sr
    rw [es] at q
    exact g2.perm ((q.append_left τ).trans List.perm_middle)
/-- a slot takes what is at hand -/
theorem S.set {i : Nat} {v : V} {w : W} (s : S K Φ σ δ ((v, w) :: τ) H) (hi : i < δ.length) : S K Φ (σ.set i (some v)) (δ.set i (some w)) τ H := by
  have hi2 : i < σ.length := by rw [s.sr.len]; exact hi
  refine ⟨s.sr.set i v w, ?_⟩
  have q := ent_set (v := v) (w := w) hi2 s.sr
  have sl : ((v, w) :: ent σ (δ.set i none)).Sublist ((v, w) :: ent σ δ) := by
    refine List.Sublist.cons_cons _ ?_
    clear q
    have : ∀ (σ : St) (δ : DSt) (i : Nat), (ent σ (δ.set i none)).Sublist (ent σ δ) := by
      intro σ
      induction σ with
      | nil => intro δ i; cases δ <;> exact .refl _
      | cons u σ ih =>
        intro δ i
        cases δ with
        | nil => exact .refl _
        | cons w' δ =>
          cases i with
          | zero =>
            show (ent (u :: σ) (none :: δ)).Sublist _
            have x1 : ent (u :: σ) (none :: δ) = ent σ δ := by cases u <;> rfl
            rw [x1]
            cases u <;> cases w' <;> simp [ent]
          | succ i =>
            show (ent (u :: σ) (w' :: δ.set i none)).Sublist _
            have := ih δ i
            cases u <;> cases w' <;> simp [ent, this]
    exact this σ δ i
  refine s.g.subp (m := τ ++ ((v, w) :: ent σ δ)) ?_ List.perm_middle |>.perm (q.append_left τ)
  exact List.Sublist.append_left sl τ
/-- a slot's own list is written -/
theorem S.write {i : Nat} {k : Option Nat} {l l' : List D} {a : Addr} {vs' : List V} (s : S K Φ σ δ τ H) (h : δ[i]? = some (some (.own k l))) (ha : σ[i]? = some (some (.ref a))) (hv : RpA K H (Mm Φ (τ ++ ent σ δ)) l' vs') :
    S K Φ σ (δ.set i (some (.own k l'))) τ (upd H a (.lst vs')) := by
  obtain ⟨v, e, p⟩ := s.sr.get h
  rw [ha] at e
  have e : V.ref a = v := by simpa using e
  subst e
  have hi : i < σ.length := (List.getElem?_eq_some_iff.mp ha).1
  have es : σ.set i (some (.ref a)) = σ := by
    obtain ⟨h1, h2⟩ := List.getElem?_eq_some_iff.mp ha
    rw [← h2, List.set_getElem_self]
  have pp : (((V.ref a, W.own k l) :: (τ ++ ent σ (δ.set i none)))).Perm (τ ++ ent σ δ) := (List.perm_middle.symm).trans (p.symm.append_left τ)
  have g1 : G K Φ ((.ref a, .own k l) :: (τ ++ ent σ (δ.set i none))) H := s.g.perm pp
  have g2 := g1.write (l' := l') (vs' := vs') (RpA.keep Keep.refl (fun b h => h.imp id fun h => (ownA_perm pp).mem_iff.mp h) l' vs' hv)
  refine ⟨?_, ?_⟩
  · have := s.sr.set i (.ref a) (.own k l')
    rwa [es] at this
  · have q := ent_set (v := .ref a) (w := .own k l') hi s.sr
    rw [es] at q
    exact g2.perm ((q.append_left τ).trans List.perm_middle)
end
end DL

namespace DL
open PySem L2

/-! ### lists of data -/
section
variable {K : PySem.W.Frag} {H : Hp} {M : Addr → Prop}
theorem RpA.len : ∀ {ds : List D} {vs : List V}, RpA K H M ds vs → vs.length = ds.length
  | [], _, h => by rw [show _ = [] from h]; rfl
  | d :: ds, vs, h => by
    obtain ⟨v, r, e, _, h2⟩ := h
    rw [e, List.length_cons, List.length_cons, RpA.len h2]
theorem RpA.get : ∀ {ds : List D} {vs : List V} {i : Nat} {d : D}, RpA K H M ds vs → ds[i]? = some d → ∃ v, vs[i]? = some v ∧ Rp K H M d v
  | [], _, _, _, _, e => by simp at e
  | d :: ds, vs, 0, d', h, e => by
    obtain ⟨v, r, e1, h1, _⟩ := h
    have e : d = d' := by simpa using e
    subst e e1
    exact ⟨v, rfl, h1⟩
  | d :: ds, vs, i + 1, d', h, e => by
    obtain ⟨v, r, e1, _, h2⟩ := h
    subst e1
    obtain ⟨u, h3, h4⟩ := RpA.get (i := i) h2 (by simpa using e)
    exact ⟨u, by simpa using h3, h4⟩
theorem RpA.get' {ds : List D} {vs : List V} {i : Nat} {v : V} (h : RpA K H M ds vs) (e : vs[i]? = some v) : ∃ d, ds[i]? = some d ∧ Rp K H M d v := by
  have hi : i < ds.length := by rw [← h.len]; exact (List.getElem?_eq_some_iff.mp e).1
  obtain ⟨u, h1, h2⟩ := h.get (List.getElem?_eq_getElem hi)
  rw [e] at h1
  cases h1
  exact ⟨_, List.getElem?_eq_getElem hi, h2⟩
theorem RpA.app : ∀ {ds es : List D} {vs us : List V}, RpA K H M ds vs → RpA K H M es us → RpA K H M (ds ++ es) (vs ++ us)
  | [], _, _, _, h, g => by rw [show _ = [] from h]; exact g
  | d :: ds, es, vs, us, h, g => by
    obtain ⟨v, r, e1, h1, h2⟩ := h
    subst e1
    exact ⟨v, r ++ us, rfl, h1, RpA.app h2 g⟩
theorem RpA.one {d : D} {v : V} (h : Rp K H M d v) : RpA K H M [d] [v] := ⟨v, [], rfl, h, rfl⟩
theorem RpA.take : ∀ {ds : List D} {vs : List V} (n : Nat), RpA K H M ds vs → RpA K H M (ds.take n) (vs.take n)
  | [], _, _, h => by rw [show _ = [] from h, List.take_nil, List.take_nil]; rfl
  | d :: ds, vs, 0, h => by rw [List.take_zero, List.take_zero]; rfl
  | d :: ds, vs, n + 1, h => by
    obtain ⟨v, r, e1, h1, h2⟩ := h
    subst e1
    exact ⟨v, r.take n, rfl, h1, RpA.take n h2⟩
theorem RpA.drop : ∀ {ds : List D} {vs : List V} (n : Nat), RpA K H M ds vs → RpA K H M (ds.drop n) (vs.drop n)
  | [], _, _, h => by rw [show _ = [] from h, List.drop_nil, List.drop_nil]; rfl
  | d :: ds, vs, 0, h => h
  | d :: ds, vs, n + 1, h => by
    obtain ⟨v, r, e1, h1, h2⟩ := h
    subst e1
    exact RpA.drop n h2
theorem RpA.set {d : D} {v : V} (hd : Rp K H M d v) : ∀ {ds : List D} {vs : List V} (i : Nat), RpA K H M ds vs → RpA K H M (ds.set i d) (vs.set i v)
  | [], _, _, h => by rw [show _ = [] from h]; rfl
  | _ :: ds, vs, 0, h => by
    obtain ⟨u, r, e1, _, h2⟩ := h
    subst e1
    exact ⟨v, r, rfl, hd, h2⟩
  | d' :: ds, vs, i + 1, h => by
    obtain ⟨u, r, e1, h1, h2⟩ := h
    subst e1
    exact ⟨u, r.set i v, rfl, h1, RpA.set hd i h2⟩
theorem RpA.erase : ∀ {ds : List D} {vs : List V} (i : Nat), RpA K H M ds vs → RpA K H M (ds.eraseIdx i) (vs.eraseIdx i)
  | [], _, _, h => by rw [show _ = [] from h]; rfl
  | _ :: ds, vs, 0, h => by
    obtain ⟨u, r, e1, _, h2⟩ := h
    subst e1
    exact h2
  | d' :: ds, vs, i + 1, h => by
    obtain ⟨u, r, e1, h1, h2⟩ := h
    subst e1
    exact ⟨u, r.eraseIdx i, rfl, h1, RpA.erase i h2⟩
theorem RpA.ints : ∀ {ns : List Int} {vs : List V}, RpA K H M (ns.map D.int) vs → vs = ns.map V.int
  | [], _, h => h
  | n :: ns, vs, h => by
    obtain ⟨v, r, e1, h1, h2⟩ := h
    rw [e1, show v = V.int n from h1, RpA.ints h2]
    rfl
theorem RpA.of_ints : ∀ (ns : List Int), RpA K H M (ns.map D.int) (ns.map V.int)
  | [] => rfl
  | n :: ns => ⟨.int n, ns.map V.int, rfl, rfl, RpA.of_ints ns⟩
/-- may be read as d; its items are data of ours -/
def Ro (K : PySem.W.Frag) (H : Hp) (M : Addr → Prop) (v : V) : D → Prop
  | .lst l => ∃ a vs, v = .ref a ∧ H a = some (.lst vs) ∧ RpA K H M l vs
  | d => Rp K H M d v
theorem Rp.ro {d : D} {v : V} (h : Rp K H M d v) : Ro K H M v d := by
  cases d with
  | lst l => obtain ⟨a, vs, e, q, _, r⟩ := h; exact ⟨a, vs, e, q, r⟩
  | _ => exact h
theorem Ro.free {d : D} {v : V} (h : Ro K H M v d) : Rp K H (fun _ => False) d v := by
  cases d with
  | lst l => obtain ⟨a, vs, e, q, r⟩ := h; exact ⟨a, vs, e, q, id, RpA.keep Keep.refl (fun _ h => h.elim) l vs r⟩
  | _ => exact Rp.keep (M := M) Keep.refl (fun _ h => h.elim) _ _ h
/-- a list or a tuple, its items -/
def seqOf : D → Option (List D)
  | .tup l => some l
  | .lst l => some l
  | .fz l => some l
  | _ => none
theorem Ro.seq {d : D} {v : V} {l : List D} (h : Ro K H M v d) (e : seqOf d = some l) : ∃ a vs, v = .ref a ∧ (SqL K H a vs ∨ SqT K H a vs) ∧ RpA K H M l vs := by
  cases d with
  | lst l' =>
    cases e
    obtain ⟨a, vs, e, q, r⟩ := h
    exact ⟨a, vs, e, .inl (SqL.of q), r⟩
  | tup l' =>
    cases e
    obtain ⟨a, vs, e, q, r⟩ := h
    refine ⟨a, vs, e, .inr ?_, r⟩
    rcases q with ⟨q, _⟩ | q
    · exact .inl q
    · exact .inr q
  | fz l' =>
    cases e
    obtain ⟨a, vs, e, q, r⟩ := h
    refine ⟨a, vs, e, .inl ?_, r⟩
    rcases q with ⟨q, _⟩ | q
    · exact .inl q
    · exact .inr q
  | _ => cases e
def listOf : D → Option (List D)
  | .lst l => some l
  | .fz l => some l
  | _ => none
theorem Ro.list {d : D} {v : V} {l : List D} (h : Ro K H M v d) (e : listOf d = some l) : ∃ a vs, v = .ref a ∧ SqL K H a vs ∧ RpA K H M l vs := by
  cases d with
  | lst l' =>
    cases e
    obtain ⟨a, vs, e, q, r⟩ := h
    exact ⟨a, vs, e, SqL.of q, r⟩
  | fz l' =>
    cases e
    obtain ⟨a, vs, e, q, r⟩ := h
    refine ⟨a, vs, e, ?_, r⟩
    rcases q with ⟨q, _⟩ | q
    · exact .inl q
    · exact .inr q
  | _ => cases e
theorem Ro.tup {v : V} {l : List D} (h : Ro K H M v (.tup l)) : ∃ a vs, v = .ref a ∧ SqT K H a vs ∧ RpA K H M l vs := by
  obtain ⟨a, vs, e, q, r⟩ := h
  refine ⟨a, vs, e, ?_, r⟩
  rcases q with ⟨q, _⟩ | q
  · exact .inl q
  · exact .inr q
end

/-! ### what an expression gives -/
inductive R where
  | val (w : W) | slot (i : Nat)
def tmp (v : V) : R → List (V × W)
  | .val w => [(v, w)]
  | .slot _ => []
def tmps : List V → List R → List (V × W)
  | v :: vs, r :: rs => tmp v r ++ tmps vs rs
  | _, _ => []
def RS (σ : St) (v : V) : R → Prop
  | .val _ => True
  | .slot i => σ[i]? = some (some v)
def RSs (σ : St) : List V → List R → Prop
  | [], [] => True
  | v :: vs, r :: rs => RS σ v r ∧ RSs σ vs rs
  | _, _ => False
def look (δ : DSt) : R → Option D
  | .val (.imm d) => some d
  | .val (.own _ l) => some (.lst l)
  | .slot i => match δ[i]? with
    | some (some (.imm d)) => some d
    | some (some (.own _ l)) => some (.lst l)
    | _ => none
def looks (δ : DSt) : List R → Option (List D)
  | [] => some []
  | r :: rs => match look δ r with
    | some d => match looks δ rs with
      | some ds => some (d :: ds)
      | none => none
    | none => none
def RoA (K : PySem.W.Frag) (H : Hp) (M : Addr → Prop) : List V → List D → Prop
  | [], [] => True
  | v :: vs, d :: ds => Ro K H M v d ∧ RoA K H M vs ds
  | _, _ => False
section
variable {K : PySem.W.Frag} {Φ : Fm} {σ : St} {δ : DSt} {τ : List (V × W)} {H : Hp}
theorem S.look {v : V} {r : R} {d : D} (s : S K Φ σ δ τ H) (rs : RS σ v r) (ht : ∀ p ∈ tmp v r, p ∈ τ) (e : look δ r = some d) : Ro K H (Mm Φ (τ ++ ent σ δ)) v d := by
  cases r with
  | val w =>
    have hm : (v, w) ∈ τ ++ ent σ δ := List.mem_append_left _ (ht _ (List.mem_singleton.mpr rfl))
    cases w with
    | imm d' =>
      cases e
      exact Rp.ro (s.g.imm hm)
    | own k l =>
      cases e
      exact s.g.own hm
  | slot i =>
    have rs : σ[i]? = some (some v) := rs
    have e : (match δ[i]? with
      | some (some (.imm d)) => some d
      | some (some (.own _ l)) => some (D.lst l)
      | _ => none) = some d := e
    cases q : δ[i]? with
    | none => rw [q] at e; cases e
    | some o =>
      cases o with
      | none => rw [q] at e; cases e
      | some w =>
        obtain ⟨u, hu, p⟩ := s.sr.get q
        rw [rs] at hu
        cases hu
        have hm : (v, w) ∈ τ ++ ent σ δ := List.mem_append_right _ (p.mem_iff.mpr List.mem_cons_self)
        rw [q] at e
        cases w with
        | imm d' => cases e; exact Rp.ro (s.g.imm hm)
        | own k l => cases e; exact s.g.own hm
theorem S.looks (s : S K Φ σ δ τ H) : ∀ {vs : List V} {rs : List R} {ds : List D}, RSs σ vs rs → (∀ p ∈ tmps vs rs, p ∈ τ) → DL.looks δ rs = some ds → RoA K H (Mm Φ (τ ++ ent σ δ)) vs ds
  | [], [], ds, _, _, e => by cases e; trivial
  | v :: vs, r :: rs, ds, h, ht, e => by
    have e : (match DL.look δ r with
      | some d => match DL.looks δ rs with
        | some ds => some (d :: ds)
        | none => none
      | none => none) = some ds := e
    cases q1 : DL.look δ r with
    | none => rw [q1] at e; cases e
    | some d =>
      rw [q1] at e
      cases q2 : DL.looks δ rs with
      | none => rw [q2] at e; cases e
      | some ds' =>
        rw [q2] at e
        cases e
        exact ⟨s.look h.1 (fun p hp => ht p (List.mem_append_left _ hp)) q1, S.looks s h.2 (fun p hp => ht p (List.mem_append_right _ hp)) q2⟩
  | [], _ :: _, _, h, _, _ => h.elim
  | _ :: _, [], _, h, _, _ => h.elim
end

/-- the slots, reckoned to a written list -/
def force : DSt → (DSt → Prop) → Prop
  | [], k => k []
  | x :: xs, k => force xs fun ys => k (x :: ys)
theorem force_eq : ∀ (δ : DSt) (k : DSt → Prop), force δ k = k δ
  | [], _ => rfl
  | x :: xs, k => force_eq xs fun ys => k (x :: ys)
theorem force_i {δ : DSt} {k : DSt → Prop} (h : k δ) : force δ k := by rw [force_eq]; exact h
abbrev TD := DSt → (R → DSt → Prop) → Prop
abbrev TDT := DSt → (Bool → DSt → Prop) → Prop
abbrev TDA := DSt → (List R → DSt → Prop) → Prop
structure DEnds where
  nx : DSt → Prop
  rt : W → DSt → Prop
  bk : DSt → Prop := fun _ => False
  ct : DSt → Prop := fun _ => False
abbrev TDS := DEnds → DSt → Prop
def br (b : Bool) (A B : Prop) : Prop := match b with
  | true => A
  | false => B
theorem br_if {b : Bool} {A B : Prop} (h : br b A B) : if b = true then A else B := by
  cases b with
  | true => rw [if_pos rfl]; exact h
  | false => rw [if_neg Bool.false_ne_true]; exact h

structure SimE (K : PySem.W.Frag) (Φ : Fm) (t : TE) (T : TD) : Prop where
  run : ∀ (τ : List (V × W)) (σ : St) (δ : DSt) (H : Hp) (Q : VK) (q : R → DSt → Prop), S K Φ σ δ τ H → T δ q →
    (∀ v r δ' H', S K Φ σ δ' (tmp v r ++ τ) H' → RS σ v r → q r δ' → Q v H') → t σ H Q
structure SimT (K : PySem.W.Frag) (Φ : Fm) (t : TT) (T : TDT) : Prop where
  run : ∀ (τ : List (V × W)) (σ : St) (δ : DSt) (H : Hp) (Q : Bool → Hp → Prop) (q : Bool → DSt → Prop), S K Φ σ δ τ H → T δ q →
    (∀ b δ' H', S K Φ σ δ' τ H' → q b δ' → Q b H') → t σ H Q
structure SimA (K : PySem.W.Frag) (Φ : Fm) (t : TA) (T : TDA) : Prop where
  run : ∀ (τ : List (V × W)) (σ : St) (δ : DSt) (H : Hp) (Q : List V → Hp → Prop) (q : List R → DSt → Prop), S K Φ σ δ τ H → T δ q →
    (∀ vs rs δ' H', S K Φ σ δ' (tmps vs rs ++ τ) H' → RSs σ vs rs → q rs δ' → Q vs H') → t σ H Q
structure SimS (K : PySem.W.Frag) (Φ : Fm) (t : TS) (T : TDS) : Prop where
  run : ∀ (τ : List (V × W)) (σ : St) (δ : DSt) (H : Hp) (D : Ends) (Δ : DEnds), S K Φ σ δ τ H → T Δ δ →
    (∀ σ' δ' H', S K Φ σ' δ' τ H' → Δ.nx δ' → D.nx σ' H') → (∀ v w σ' δ' H', S K Φ σ' δ' ((v, w) :: τ) H' → Δ.rt w δ' → D.rt v H') →
    (∀ σ' δ' H', S K Φ σ' δ' τ H' → Δ.bk δ' → D.bk σ' H') → (∀ σ' δ' H', S K Φ σ' δ' τ H' → Δ.ct δ' → D.ct σ' H') → t D σ H

section
variable {K : PySem.W.Frag} {Φ : Fm}
/-! ### names, constants -/
def TVar (i : Nat) : TD := fun δ q => match δ[i]? with
  | some (some (.imm d)) => q (.val (.imm d)) δ
  | some (some (.own _ _)) => q (.slot i) δ
  | _ => False
theorem sim_var {i : Nat} : SimE K Φ (tVar i) (TVar i) := by
  refine ⟨fun τ σ δ H Q q s h k => ?_⟩
  have h : (match δ[i]? with
    | some (some (.imm d)) => q (.val (.imm d)) δ
    | some (some (.own _ _)) => q (.slot i) δ
    | _ => False) := h
  cases e : δ[i]? with
  | none => rw [e] at h; exact h.elim
  | some o =>
    rw [e] at h
    cases o with
    | none => exact h.elim
    | some w =>
      obtain ⟨v, hv, p⟩ := s.sr.get e
      cases w with
      | imm d =>
        refine ⟨v, hv, k v (.val (.imm d)) δ H (s.push ?_) trivial h⟩
        exact s.g.imm (List.mem_append_right _ (p.mem_iff.mpr List.mem_cons_self))
      | own j l => exact ⟨v, hv, k v (.slot i) δ H s hv h⟩
def TC (d : D) : TD := fun δ q => q (.val (.imm d)) δ
theorem sim_c {v : V} {d : D} (h : ∀ H M, Rp K H M d v) : SimE K Φ (tC v) (TC d) :=
  ⟨fun τ σ δ H Q q s h' k => k v (.val (.imm d)) δ H (s.push (h _ _)) trivial h'⟩
theorem sim_int {i : Int} : SimE K Φ (tC (.int i)) (TC (.int i)) := sim_c fun _ _ => rfl
theorem sim_bl {b : Bool} : SimE K Φ (tC (.bl b)) (TC (.bl b)) := sim_c fun _ _ => rfl
theorem sim_non : SimE K Φ (tC .non) (TC .non) := sim_c fun _ _ => rfl
theorem sim_str {x : Str} : SimE K Φ (tC (.str x)) (TC (.str x)) := sim_c fun _ _ => rfl

/-! ### operators -/
def OpU (K : PySem.W.Frag) (r : R2) (rd : D → D → (W → Prop) → Prop) : Prop :=
  ∀ (Φ : Fm) (inv : List (V × W)) (x y : V) (d1 d2 : D) (H : Hp) (Q : VK) (k : W → Prop), G K Φ inv H → Ro K H (Mm Φ inv) x d1 → Ro K H (Mm Φ inv) y d2 → rd d1 d2 k →
    (∀ v w H', G K Φ ((v, w) :: inv) H' → k w → Q v H') → r x y H Q
def TOp (rd : D → D → (W → Prop) → Prop) (Ta Tb : TD) : TD := fun δ q => Ta δ fun r1 δ1 => Tb δ1 fun r2 δ2 => match look δ2 r1, look δ2 r2 with
  | some d1, some d2 => rd d1 d2 fun w => q (.val w) δ2
  | _, _ => False
theorem sim_op {r : R2} {rd : D → D → (W → Prop) → Prop} {ta tb : TE} {Ta Tb : TD} (ho : OpU K r rd) (ha : SimE K Φ ta Ta) (hb : SimE K Φ tb Tb) : SimE K Φ (tOp r ta tb) (TOp rd Ta Tb) := by
  refine ⟨fun τ σ δ H Q q s h k => ?_⟩
  refine ha.run τ σ δ H _ _ s h fun v1 r1 δ1 H1 s1 e1 h1 => ?_
  refine hb.run _ σ δ1 H1 _ _ s1 h1 fun v2 r2 δ2 H2 s2 e2 h2 => ?_
  cases q1 : look δ2 r1 with
  | none => rw [q1] at h2; exact h2.elim
  | some d1 =>
    cases q2 : look δ2 r2 with
    | none => rw [q1, q2] at h2; exact h2.elim
    | some d2 =>
      rw [q1, q2] at h2
      refine ho Φ _ v1 v2 d1 d2 H2 Q _ s2.g (s2.look e1 (fun p hp => List.mem_append_right _ (List.mem_append_left _ hp)) q1) (s2.look e2 (fun p hp => List.mem_append_left _ hp) q2) h2 fun v w H' g hw => ?_
      refine k v (.val w) δ2 H' ⟨s2.sr, g.sub ?_⟩ trivial hw
      refine List.Sublist.cons_cons _ (List.Sublist.append_right ?_ _)
      exact (List.sublist_append_right _ _).trans (List.sublist_append_right _ _)
def UnU (K : PySem.W.Frag) (r : V → Hp → VK → Prop) (rd : D → (W → Prop) → Prop) : Prop :=
  ∀ (Φ : Fm) (inv : List (V × W)) (x : V) (d1 : D) (H : Hp) (Q : VK) (k : W → Prop), G K Φ inv H → Ro K H (Mm Φ inv) x d1 → rd d1 k →
    (∀ v w H', G K Φ ((v, w) :: inv) H' → k w → Q v H') → r x H Q
def TUn (rd : D → (W → Prop) → Prop) (Ta : TD) : TD := fun δ q => Ta δ fun r1 δ1 => match look δ1 r1 with
  | some d1 => rd d1 fun w => q (.val w) δ1
  | _ => False
theorem sim_un {r : V → Hp → VK → Prop} {rd : D → (W → Prop) → Prop} {ta : TE} {Ta : TD} (ho : UnU K r rd) (ha : SimE K Φ ta Ta) : SimE K Φ (tUn r ta) (TUn rd Ta) := by
  refine ⟨fun τ σ δ H Q q s h k => ?_⟩
  refine ha.run τ σ δ H _ _ s h fun v1 r1 δ1 H1 s1 e1 h1 => ?_
  cases q1 : look δ1 r1 with
  | none => rw [q1] at h1; exact h1.elim
  | some d1 =>
    rw [q1] at h1
    refine ho Φ _ v1 d1 H1 Q _ s1.g (s1.look e1 (fun p hp => List.mem_append_left _ hp) q1) h1 fun v w H' g hw => ?_
    refine k v (.val w) δ1 H' ⟨s1.sr, g.sub ?_⟩ trivial hw
    exact List.Sublist.cons_cons _ (List.Sublist.append_right (List.sublist_append_right _ _) _)
/-- an answer that is no object -/
theorem G.scal {inv : List (V × W)} {H : Hp} {v : V} {d : D} (g : G K Φ inv H) (h : ∀ H M, Rp K H M d v) : G K Φ ((v, .imm d) :: inv) H := g.push (h _ _)

/-! ### argument lists -/
def TNil : TDA := fun δ q => q [] δ
def TCons (Ta : TD) (Tr : TDA) : TDA := fun δ q => Ta δ fun r δ1 => Tr δ1 fun rs δ2 => q (r :: rs) δ2
theorem sim_nil : SimA K Φ tNil TNil := ⟨fun τ σ δ H Q q s h k => k [] [] δ H s trivial h⟩
theorem sim_cons {ta : TE} {tr : TA} {Ta : TD} {Tr : TDA} (ha : SimE K Φ ta Ta) (hr : SimA K Φ tr Tr) : SimA K Φ (tCons ta tr) (TCons Ta Tr) := by
  refine ⟨fun τ σ δ H Q q s h k => ?_⟩
  refine ha.run τ σ δ H _ _ s h fun v r δ1 H1 s1 e1 h1 => ?_
  refine hr.run _ σ δ1 H1 _ _ s1 h1 fun vs rs δ2 H2 s2 e2 h2 => ?_
  refine k (v :: vs) (r :: rs) δ2 H2 (s2.perm ?_) ⟨e1, e2⟩ h2
  show ((tmp v r ++ tmps vs rs) ++ τ).Perm (tmps vs rs ++ (tmp v r ++ τ))
  rw [← List.append_assoc]
  exact List.perm_append_comm.append_right _

/-! ### taken as data: what is owned is given up -/
def datas : DSt → List R → Option (List D × DSt)
  | δ, [] => some ([], δ)
  | δ, .val (.imm d) :: rs => match datas δ rs with
    | some (ds, δ') => some (d :: ds, δ')
    | none => none
  | δ, .val (.own none l) :: rs => match datas δ rs with
    | some (ds, δ') => some (.lst l :: ds, δ')
    | none => none
  | δ, .slot i :: rs => match δ[i]? with
    | some (some (.own none l)) => match datas (δ.set i (some (.imm (.lst l)))) rs with
      | some (ds, δ') => some (.lst l :: ds, δ')
      | none => none
    | some (some (.imm d)) => match datas δ rs with
      | some (ds, δ') => some (d :: ds, δ')
      | none => none
    | _ => none
  | _, _ => none
theorem S.datas {H : Hp} {σ : St} : ∀ {vs : List V} {rs : List R} {δ δ' : DSt} {τ : List (V × W)} {ds : List D}, S K Φ σ δ (tmps vs rs ++ τ) H → RSs σ vs rs → DL.datas δ rs = some (ds, δ') →
    S K Φ σ δ' τ H ∧ RpA K H (Mm Φ (τ ++ ent σ δ')) ds vs
  | [], [], δ, δ', τ, ds, s, _, e => by
    cases e
    exact ⟨s, rfl⟩
  | v :: vs, .val (.imm d) :: rs, δ, δ', τ, ds, s, h, e => by
    have e : (match DL.datas δ rs with
      | some (ds, δ') => some (d :: ds, δ')
      | none => none) = some (ds, δ') := e
    cases q : DL.datas δ rs with
    | none => rw [q] at e; cases e
    | some p =>
      obtain ⟨ds', δ1⟩ := p
      rw [q] at e
      cases e
      have s1 : S K Φ σ δ (tmps vs rs ++ ((v, .imm d) :: τ)) H := s.perm List.perm_middle
      obtain ⟨s2, r2⟩ := S.datas s1 h.2 q
      refine ⟨s2.drop, v, vs, rfl, ?_, ?_⟩
      · have := s2.g.imm (v := v) (d := d) (List.mem_append_left _ List.mem_cons_self)
        rw [List.cons_append] at this
        unfold Mm at this ⊢
        rw [ownA_imm] at this
        exact this
      · rw [List.cons_append] at r2
        unfold Mm at r2 ⊢
        rw [ownA_imm] at r2
        exact r2
  | v :: vs, .val (.own none l) :: rs, δ, δ', τ, ds, s, h, e => by
    have e : (match DL.datas δ rs with
      | some (ds, δ') => some (D.lst l :: ds, δ')
      | none => none) = some (ds, δ') := e
    cases q : DL.datas δ rs with
    | none => rw [q] at e; cases e
    | some p =>
      obtain ⟨ds', δ1⟩ := p
      rw [q] at e
      cases e
      have s0 : S K Φ σ δ ((v, .own none l) :: (tmps vs rs ++ τ)) H := s
      have s1 : S K Φ σ δ (tmps vs rs ++ ((v, .imm (.lst l)) :: τ)) H := s0.share.perm List.perm_middle
      obtain ⟨s2, r2⟩ := S.datas s1 h.2 q
      refine ⟨s2.drop, v, vs, rfl, ?_, ?_⟩
      · have := s2.g.imm (v := v) (d := .lst l) (List.mem_append_left _ List.mem_cons_self)
        rw [List.cons_append] at this
        unfold Mm at this ⊢
        rw [ownA_imm] at this
        exact this
      · rw [List.cons_append] at r2
        unfold Mm at r2 ⊢
        rw [ownA_imm] at r2
        exact r2
  | v :: vs, .slot i :: rs, δ, δ', τ, ds, s, h, e => by
    have hv : σ[i]? = some (some v) := h.1
    have e : (match δ[i]? with
      | some (some (.own none l)) => match DL.datas (δ.set i (some (.imm (.lst l)))) rs with
        | some (ds, δ') => some (D.lst l :: ds, δ')
        | none => none
      | some (some (.imm d)) => match DL.datas δ rs with
        | some (ds, δ') => some (d :: ds, δ')
        | none => none
      | _ => none) = some (ds, δ') := e
    cases q0 : δ[i]? with
    | none => rw [q0] at e; cases e
    | some o =>
      cases o with
      | none => rw [q0] at e; cases e
      | some w =>
        rw [q0] at e
        cases w with
        | imm d =>
          cases q : DL.datas δ rs with
          | none => simp only [q] at e; cases e
          | some p =>
            obtain ⟨ds', δ1⟩ := p
            simp only [q] at e
            cases e
            obtain ⟨u, hu, pm⟩ := s.sr.get q0
            rw [hv] at hu
            cases hu
            have hd := s.g.imm (v := v) (d := d) (List.mem_append_right _ (pm.mem_iff.mpr List.mem_cons_self))
            have s1 : S K Φ σ δ (tmps vs rs ++ ((v, .imm d) :: τ)) H := (s.push hd).perm List.perm_middle
            obtain ⟨s2, r2⟩ := S.datas s1 h.2 q
            refine ⟨s2.drop, v, vs, rfl, ?_, ?_⟩
            · have := s2.g.imm (v := v) (d := d) (List.mem_append_left _ List.mem_cons_self)
              rw [List.cons_append] at this
              unfold Mm at this ⊢
              rw [ownA_imm] at this
              exact this
            · rw [List.cons_append] at r2
              unfold Mm at r2 ⊢
              rw [ownA_imm] at r2
              exact r2
        | own k l =>
          cases k with
          | some j => cases e
          | none =>
            cases q : DL.datas (δ.set i (some (.imm (.lst l)))) rs with
            | none => simp only [q] at e; cases e
            | some p =>
              obtain ⟨ds', δ1⟩ := p
              simp only [q] at e
              cases e
              have s0 := s.shareAt q0
              obtain ⟨u, hu, pm⟩ := s0.sr.get (i := i) (w := .imm (.lst l)) (by
                have := (List.getElem?_eq_some_iff.mp q0).1
                simp [this])
              rw [hv] at hu
              cases hu
              have hd := s0.g.imm (v := v) (d := .lst l) (List.mem_append_right _ (pm.mem_iff.mpr List.mem_cons_self))
              have s1 : S K Φ σ (δ.set i (some (.imm (.lst l)))) (tmps vs rs ++ ((v, .imm (.lst l)) :: τ)) H := (s0.push hd).perm List.perm_middle
              obtain ⟨s2, r2⟩ := S.datas s1 h.2 q
              refine ⟨s2.drop, v, vs, rfl, ?_, ?_⟩
              · have := s2.g.imm (v := v) (d := .lst l) (List.mem_append_left _ List.mem_cons_self)
                rw [List.cons_append] at this
                unfold Mm at this ⊢
                rw [ownA_imm] at this
                exact this
              · rw [List.cons_append] at r2
                unfold Mm at r2 ⊢
                rw [ownA_imm] at r2
                exact r2
  | _ :: _, .val (.own (some _) _) :: _, _, _, _, _, _, _, e => by cases e
  | [], _ :: _, _, _, _, _, _, h, _ => h.elim
  | _ :: _, [], _, _, _, _, _, h, _ => h.elim
theorem tmp_tmps {v : V} {r : R} : tmps [v] [r] = tmp v r := by
  show tmp v r ++ [] = tmp v r
  rw [List.append_nil]
theorem S.data1 {H : Hp} {σ : St} {v : V} {r : R} {δ δ' : DSt} {τ : List (V × W)} {d : D} (s : S K Φ σ δ (tmp v r ++ τ) H) (h : RS σ v r) (e : DL.datas δ [r] = some ([d], δ')) : S K Φ σ δ' ((v, .imm d) :: τ) H := by
  obtain ⟨s1, u, r', e1, h1, h2⟩ := S.datas (vs := [v]) (rs := [r]) (by rw [tmp_tmps]; exact s) ⟨h, trivial⟩ e
  cases e1
  exact s1.push h1
end
end DL

namespace DL
open PySem L2

section
variable {K : PySem.W.Frag} {Φ : Fm}
/-! ### displays -/
def smallL (l : List D) (A : Prop) : Prop := match Nat.ble l.length 1000 with
  | true => A
  | false => False
theorem smallL_of {l : List D} {A : Prop} (h : smallL l A) : l.length ≤ 1000 ∧ A := by
  unfold smallL at h
  cases e : Nat.ble l.length 1000 with
  | true => rw [e] at h; exact ⟨Nat.le_of_ble_eq_true e, h⟩
  | false => rw [e] at h; exact h.elim
def TTup (Ta : TDA) : TD := fun δ q => Ta δ fun rs δ1 => match datas δ1 rs with
  | some (ds, δ2) => smallL ds (q (.val (.imm (.tup ds))) δ2)
  | none => False
def TLst (Ta : TDA) : TD := fun δ q => Ta δ fun rs δ1 => match datas δ1 rs with
  | some (ds, δ2) => smallL ds (q (.val (.own none ds)) δ2)
  | none => False
theorem le1000 {n : Nat} (h : n ≤ 1000) : n ≤ sizeLine := Nat.le_of_lt (small1000 h)
theorem sim_tup {ta : TA} {Ta : TDA} (ha : SimA K Φ ta Ta) : SimE K Φ (tTup ta) (TTup Ta) := by
  refine ⟨fun τ σ δ H Q q s h k => ?_⟩
  refine ha.run τ σ δ H _ _ s h fun vs rs δ1 H1 s1 e1 h1 => ?_
  cases e : datas δ1 rs with
  | none => simp only [e] at h1
  | some p =>
    obtain ⟨ds, δ2⟩ := p
    simp only [e] at h1
    obtain ⟨hl, h1⟩ := smallL_of h1
    obtain ⟨s2, r2⟩ := s1.datas e1 e
    exact ⟨by rw [r2.len]; exact le1000 hl, fun p hp => k (.ref p) (.val (.imm (.tup ds))) δ2 _ (s2.tup hp r2) trivial h1⟩
theorem sim_lst {ta : TA} {Ta : TDA} (ha : SimA K Φ ta Ta) : SimE K Φ (tLst ta) (TLst Ta) := by
  refine ⟨fun τ σ δ H Q q s h k => ?_⟩
  refine ha.run τ σ δ H _ _ s h fun vs rs δ1 H1 s1 e1 h1 => ?_
  cases e : datas δ1 rs with
  | none => simp only [e] at h1
  | some p =>
    obtain ⟨ds, δ2⟩ := p
    simp only [e] at h1
    obtain ⟨hl, h1⟩ := smallL_of h1
    obtain ⟨s2, r2⟩ := s1.datas e1 e
    exact ⟨by rw [r2.len]; exact le1000 hl, fun p hp => k (.ref p) (.val (.own none ds)) δ2 _ (s2.lst hp r2) trivial h1⟩

/-! ### tests -/
def TB (Ta : TD) : TDT := fun δ q => Ta δ fun r δ1 => match look δ1 r with
  | some (.bl b) => q b δ1
  | _ => False
theorem sim_tb_ {t : TE} {T : TD} (ha : SimE K Φ t T) {u : TT} (hu : ∀ σ H Q, (t σ H fun x H1 => ∃ c, x = .bl c ∧ Q c H1) → u σ H Q) : SimT K Φ u (TB T) := by
  refine ⟨fun τ σ δ H Q q s h k => hu σ H Q ?_⟩
  refine ha.run τ σ δ H _ _ s h fun v r δ1 H1 s1 e1 h1 => ?_
  cases q1 : look δ1 r with
  | none => simp only [q1] at h1
  | some d =>
    simp only [q1] at h1
    have ro := s1.look e1 (fun p hp => List.mem_append_left _ hp) q1
    cases d with
    | bl b => exact ⟨b, ro, k b δ1 H1 (s1.sub (List.sublist_append_right _ _)) h1⟩
    | _ => exact h1.elim
theorem sim_tb {t : TE} {T : TD} (ha : SimE K Φ t T) : SimT K Φ (tB t) (TB T) := sim_tb_ ha fun _ _ _ h => h
theorem sim_test {t : TE} {T : TD} (ha : SimE K Φ t T) : SimT K Φ (tTest t) (TB T) := sim_tb_ ha fun _ _ _ h => h
/-- truth -/
def truD : D → Option Bool
  | .non => some false
  | .bl b => some b
  | .int i => some (i != 0)
  | .str x => match Nat.ble x.length 100000 with
    | true => some ((x.length : Int) != 0)
    | false => none
  | .tup l => some (!l.isEmpty)
  | .lst l => some (!l.isEmpty)
  | .fz l => some (!l.isEmpty)
  | .ty _ => none
theorem empty_eq {M : Addr → Prop} {H : Hp} : ∀ {l : List D} {vs : List V}, RpA K H M l vs → vs.isEmpty = l.isEmpty
  | [], _, h => by rw [show _ = [] from h]; rfl
  | _ :: _, _, h => by
    obtain ⟨v, r, e, _, _⟩ := h
    rw [e]; rfl
theorem truD_ok {H : Hp} {M : Addr → Prop} {d : D} {v : V} {b : Bool} (h : Ro K H M v d) (e : truD d = some b) : TruV K v H b := by
  cases d with
  | non => cases e; rw [show v = V.non from h]; rfl
  | bl c => cases e; rw [show v = V.bl b from h]; rfl
  | int i => cases e; rw [show v = V.int i from h]; rfl
  | str x =>
    rw [show v = V.str x from h]
    have e : (match Nat.ble x.length 100000 with
      | true => some ((x.length : Int) != 0)
      | false => none) = some b := e
    cases q : Nat.ble x.length 100000 with
    | false => rw [q] at e; cases e
    | true =>
      rw [q] at e
      cases e
      exact ⟨Nat.le_trans (Nat.le_of_ble_eq_true q) (by rw [sizeLine_eq]; decide), rfl⟩
  | tup l =>
    cases e
    obtain ⟨a, vs, e1, q, r⟩ := h.tup
    rw [e1]
    exact .inr (.inl ⟨vs, q, by rw [empty_eq r]⟩)
  | lst l =>
    cases e
    obtain ⟨a, vs, e1, q, r⟩ := h.list rfl
    rw [e1]
    exact .inl ⟨vs, q, by rw [empty_eq r]⟩
  | fz l =>
    cases e
    obtain ⟨a, vs, e1, q, r⟩ := h.list rfl
    rw [e1]
    exact .inl ⟨vs, q, by rw [empty_eq r]⟩
  | ty t => cases e
def TTru (Ta : TD) : TDT := fun δ q => Ta δ fun r δ1 => match look δ1 r with
  | some d => match truD d with
    | some b => q b δ1
    | none => False
  | none => False
theorem sim_tru {t : TE} {T : TD} (ha : SimE K Φ t T) : SimT K Φ (fun σ H Q => t σ H fun x H' => ∃ k, TruV K x H' k ∧ Q k H') (TTru T) := by
  refine ⟨fun τ σ δ H Q q s h k => ?_⟩
  refine ha.run τ σ δ H _ _ s h fun v r δ1 H1 s1 e1 h1 => ?_
  cases q1 : look δ1 r with
  | none => simp only [q1] at h1
  | some d =>
    simp only [q1] at h1
    cases q2 : truD d with
    | none => simp only [q2] at h1
    | some b =>
      simp only [q2] at h1
      exact ⟨b, truD_ok (s1.look e1 (fun p hp => List.mem_append_left _ hp) q1) q2, k b δ1 H1 (s1.sub (List.sublist_append_right _ _)) h1⟩
def TAnd (Ta Tb : TDT) : TDT := fun δ q => Ta δ fun b δ1 => br b (Tb δ1 q) (q false δ1)
def TOr (Ta Tb : TDT) : TDT := fun δ q => Ta δ fun b δ1 => br b (q true δ1) (Tb δ1 q)
def TNot (Ta : TDT) : TDT := fun δ q => Ta δ fun b δ1 => q (!b) δ1
theorem sim_and {t u : TT} {T U : TDT} (ha : SimT K Φ t T) (hb : SimT K Φ u U) : SimT K Φ (tAnd t u) (TAnd T U) := by
  refine ⟨fun τ σ δ H Q q s h k => ?_⟩
  refine ha.run τ σ δ H _ _ s h fun b δ1 H1 s1 h1 => ?_
  cases b with
  | true => rw [if_pos rfl]; exact hb.run τ σ δ1 H1 Q q s1 h1 k
  | false => rw [if_neg Bool.false_ne_true]; exact k _ _ _ s1 h1
theorem sim_or {t u : TT} {T U : TDT} (ha : SimT K Φ t T) (hb : SimT K Φ u U) : SimT K Φ (tOr t u) (TOr T U) := by
  refine ⟨fun τ σ δ H Q q s h k => ?_⟩
  refine ha.run τ σ δ H _ _ s h fun b δ1 H1 s1 h1 => ?_
  cases b with
  | false => rw [if_neg Bool.false_ne_true]; exact hb.run τ σ δ1 H1 Q q s1 h1 k
  | true => rw [if_pos rfl]; exact k _ _ _ s1 h1
theorem sim_not {t : TT} {T : TDT} (ha : SimT K Φ t T) : SimT K Φ (tNot t) (TNot T) :=
  ⟨fun τ σ δ H Q q s h k => ha.run τ σ δ H _ _ s h fun b δ1 H1 s1 h1 => k _ _ _ s1 h1⟩
/-- and, or, not as values of bools -/
def TAndV (Ta Tb : TD) : TD := fun δ q => TB Ta δ fun b δ1 => br b (Tb δ1 q) (q (.val (.imm (.bl false))) δ1)
def TOrV (Ta Tb : TD) : TD := fun δ q => TB Ta δ fun b δ1 => br b (q (.val (.imm (.bl true))) δ1) (Tb δ1 q)
def TNotV (Ta : TD) : TD := fun δ q => TB Ta δ fun b δ1 => q (.val (.imm (.bl (!b)))) δ1
theorem S.bl {σ : St} {δ : DSt} {τ : List (V × W)} {H : Hp} (s : S K Φ σ δ τ H) (b : Bool) : S K Φ σ δ (tmp (.bl b) (.val (.imm (.bl b))) ++ τ) H := s.push rfl
theorem sim_andv {ta tb : TE} {Ta Tb : TD} (ha : SimE K Φ ta Ta) (hb : SimE K Φ tb Tb) : SimE K Φ (tAndV ta tb) (TAndV Ta Tb) := by
  refine ⟨fun τ σ δ H Q q s h k => ?_⟩
  refine (sim_tb ha).run τ σ δ H (fun c H1 => if c = true then tb σ H1 Q else Q (.bl false) H1) _ s h fun b δ1 H1 s1 h1 => ?_
  cases b with
  | true => rw [if_pos rfl]; exact hb.run τ σ δ1 H1 Q q s1 h1 k
  | false => rw [if_neg Bool.false_ne_true]; exact k _ _ _ _ (s1.bl _) trivial h1
theorem sim_orv {ta tb : TE} {Ta Tb : TD} (ha : SimE K Φ ta Ta) (hb : SimE K Φ tb Tb) : SimE K Φ (tOrV ta tb) (TOrV Ta Tb) := by
  refine ⟨fun τ σ δ H Q q s h k => ?_⟩
  refine (sim_tb ha).run τ σ δ H (fun c H1 => if c = true then Q (.bl true) H1 else tb σ H1 Q) _ s h fun b δ1 H1 s1 h1 => ?_
  cases b with
  | false => rw [if_neg Bool.false_ne_true]; exact hb.run τ σ δ1 H1 Q q s1 h1 k
  | true => rw [if_pos rfl]; exact k _ _ _ _ (s1.bl _) trivial h1
theorem sim_notv {ta : TE} {Ta : TD} (ha : SimE K Φ ta Ta) : SimE K Φ (tNotV ta) (TNotV Ta) := by
  refine ⟨fun τ σ δ H Q q s h k => ?_⟩
  exact (sim_tb ha).run τ σ δ H (fun c H1 => Q (.bl (!c)) H1) _ s h fun b δ1 H1 s1 h1 => k _ _ _ _ (s1.bl _) trivial h1
def TIf (Tc : TDT) (Ta Tb : TD) : TD := fun δ q => Tc δ fun b δ1 => br b (Ta δ1 q) (Tb δ1 q)
theorem sim_if {tc : TT} {ta tb : TE} {Tc : TDT} {Ta Tb : TD} (hc : SimT K Φ tc Tc) (ha : SimE K Φ ta Ta) (hb : SimE K Φ tb Tb) : SimE K Φ (tIf tc ta tb) (TIf Tc Ta Tb) := by
  refine ⟨fun τ σ δ H Q q s h k => ?_⟩
  refine hc.run τ σ δ H _ _ s h fun b δ1 H1 s1 h1 => ?_
  cases b with
  | true => rw [if_pos rfl]; exact ha.run τ σ δ1 H1 Q q s1 h1 k
  | false => rw [if_neg Bool.false_ne_true]; exact hb.run τ σ δ1 H1 Q q s1 h1 k

/-! ### statements -/
def TNext : TDS := fun Δ δ => Δ.nx δ
def TSeq (T U : TDS) : TDS := fun Δ δ => T { Δ with nx := U Δ } δ
def TBreak : TDS := fun Δ δ => Δ.bk δ
def TCont : TDS := fun Δ δ => Δ.ct δ
def TDrop (Ta : TD) : TDS := fun Δ δ => Ta δ fun _ δ1 => Δ.nx δ1
def TRetN : TDS := fun Δ δ => Δ.rt (.imm .non) δ
def TIfS (Tc : TDT) (T U : TDS) : TDS := fun Δ δ => Tc δ fun b δ1 => br b (T Δ δ1) (U Δ δ1)
def TNever : TDS := fun _ _ => False
def TRet (Ta : TD) : TDS := fun Δ δ => Ta δ fun r δ1 => match r with
  | .val w => Δ.rt w δ1
  | .slot i => match δ1[i]? with
    | some (some (.own none l)) => Δ.rt (.own none l) (δ1.set i none)
    | some (some (.imm d)) => Δ.rt (.imm d) δ1
    | _ => False
theorem sim_next : SimS K Φ tNext TNext := ⟨fun τ σ δ H D Δ s h a _ _ _ => a _ _ _ s h⟩
theorem sim_break : SimS K Φ tBreak TBreak := ⟨fun τ σ δ H D Δ s h _ _ a _ => a _ _ _ s h⟩
theorem sim_cont : SimS K Φ tCont TCont := ⟨fun τ σ δ H D Δ s h _ _ _ a => a _ _ _ s h⟩
theorem sim_never : SimS K Φ tNever TNever := ⟨fun τ σ δ H D Δ s h _ _ _ _ => h.elim⟩
theorem sim_seq {t u : TS} {T U : TDS} (ha : SimS K Φ t T) (hb : SimS K Φ u U) : SimS K Φ (tSeq t u) (TSeq T U) :=
  ⟨fun τ σ δ H D Δ s h a b c d => ha.run τ σ δ H { D with nx := u D } { Δ with nx := U Δ } s h (fun σ' δ' H' s' h' => hb.run τ σ' δ' H' D Δ s' h' a b c d) b c d⟩
theorem sim_drop {t : TE} {T : TD} (ha : SimE K Φ t T) : SimS K Φ (tDrop t) (TDrop T) :=
  ⟨fun τ σ δ H D Δ s h a _ _ _ => ha.run τ σ δ H _ _ s h fun v r δ1 H1 s1 _ h1 => a _ _ _ (s1.sub (List.sublist_append_right _ _)) h1⟩
theorem sim_retn : SimS K Φ tRetN TRetN := ⟨fun τ σ δ H D Δ s h _ b _ _ => b .non (.imm .non) σ δ H (s.push rfl) h⟩
theorem S.outAt {σ : St} {δ : DSt} {τ : List (V × W)} {H : Hp} {i : Nat} {v : V} {w : W} (s : S K Φ σ δ τ H) (h : δ[i]? = some (some w)) (hv : σ[i]? = some (some v)) : S K Φ σ (δ.set i none) ((v, w) :: τ) H := by
  obtain ⟨u, hu, p⟩ := s.sr.get h
  rw [hv] at hu
  cases hu
  have hs := s.sr.set_none i (some v)
  have es : σ.set i (some v) = σ := by
    obtain ⟨h1, h2⟩ := List.getElem?_eq_some_iff.mp hv
    rw [← h2, List.set_getElem_self]
  rw [es] at hs
  exact ⟨hs, s.g.perm ((List.perm_middle.symm).trans (p.symm.append_left τ))⟩
theorem sim_ret {t : TE} {T : TD} (ha : SimE K Φ t T) : SimS K Φ (tRet t) (TRet T) := by
  refine ⟨fun τ σ δ H D Δ s h a b _ _ => ?_⟩
  refine ha.run τ σ δ H _ _ s h fun v r δ1 H1 s1 e1 h1 => ?_
  cases r with
  | val w => exact b v w σ δ1 H1 s1 h1
  | slot i =>
    have s1 : S K Φ σ δ1 τ H1 := s1
    have e1 : σ[i]? = some (some v) := e1
    cases q : δ1[i]? with
    | none => simp only [q] at h1
    | some o =>
      cases o with
      | none => simp only [q] at h1
      | some w =>
        cases w with
        | imm d =>
          simp only [q] at h1
          obtain ⟨u, hu, p⟩ := s1.sr.get q
          rw [e1] at hu
          cases hu
          exact b v (.imm d) σ δ1 H1 (s1.push (s1.g.imm (List.mem_append_right _ (p.mem_iff.mpr List.mem_cons_self)))) h1
        | own k l =>
          cases k with
          | none =>
            simp only [q] at h1
            exact b v (.own none l) σ _ H1 (s1.outAt q e1) h1
          | some j => simp only [q] at h1
theorem sim_ifs {tc : TT} {t u : TS} {Tc : TDT} {T U : TDS} (hc : SimT K Φ tc Tc) (ha : SimS K Φ t T) (hb : SimS K Φ u U) : SimS K Φ (tIfS tc t u) (TIfS Tc T U) := by
  refine ⟨fun τ σ δ H D Δ s h a b c d => ?_⟩
  refine hc.run τ σ δ H _ _ s h fun x δ1 H1 s1 h1 => ?_
  cases x with
  | true => rw [if_pos rfl]; exact ha.run τ σ δ1 H1 D Δ s1 h1 a b c d
  | false => rw [if_neg Bool.false_ne_true]; exact hb.run τ σ δ1 H1 D Δ s1 h1 a b c d

/-! ### targets -/
abbrev TDG := D → DSt → (DSt → Prop) → Prop
theorem wipe_set {σ : St} {i : Nat} {o : Option V} : ∀ {vs : List Nat}, i ∈ vs → wipe (σ.set i o) vs = wipe σ vs
  | v :: vs, h => by
    unfold wipe
    by_cases e : i = v
    · subst e
      by_cases h2 : i ∈ vs
      · rw [wipe_set h2]
      · have : ∀ us : List Nat, i ∉ us → wipe (σ.set i o) us = (wipe σ us).set i o := by
          intro us
          induction us with
          | nil => intro _; rfl
          | cons u us ih =>
            intro hn
            simp only [List.mem_cons, not_or] at hn
            unfold wipe
            rw [ih hn.2, List.set_comm _ _ hn.1]
        rw [this vs h2, List.set_set]
    · rcases List.mem_cons.mp h with h | h
      · exact absurd h e
      · rw [wipe_set h]
structure SimG (K : PySem.W.Frag) (Φ : Fm) (g : TG) (Tg : TDG) (is : List Nat) : Prop where
  run : ∀ (τ : List (V × W)) (σ : St) (δ : DSt) (H : Hp) (v : V) (d : D) (Q : St → Hp → Prop) (q : DSt → Prop), S K Φ σ δ ((v, .imm d) :: τ) H → Tg d δ q →
    (∀ σ' δ' H', S K Φ σ' δ' τ H' → (∀ vs, (∀ i ∈ is, i ∈ vs) → wipe σ' vs = wipe σ vs) → q δ' → Q σ' H') → g v σ H Q
structure SimGs (K : PySem.W.Frag) (Φ : Fm) (g : TGs) (Tg : List D → DSt → (DSt → Prop) → Prop) (is : List Nat) : Prop where
  run : ∀ (τ : List (V × W)) (σ : St) (δ : DSt) (H : Hp) (vs : List V) (ds : List D) (Q : St → Hp → Prop) (q : DSt → Prop), S K Φ σ δ τ H → RpA K H (Mm Φ (τ ++ ent σ δ)) ds vs → Tg ds δ q →
    (∀ σ' δ' H', S K Φ σ' δ' τ H' → (∀ vs, (∀ i ∈ is, i ∈ vs) → wipe σ' vs = wipe σ vs) → q δ' → Q σ' H') → g vs σ H Q
def GName (i : Nat) : TDG := fun d δ q => force (δ.set i (some (.imm d))) q
theorem S.set' {σ : St} {δ : DSt} {τ : List (V × W)} {H : Hp} {i : Nat} {v : V} {w : W} (s : S K Φ σ δ ((v, w) :: τ) H) : S K Φ (σ.set i (some v)) (δ.set i (some w)) τ H := by
  by_cases hi : i < δ.length
  · exact s.set hi
  · have h1 : δ.set i (some w) = δ := List.set_eq_of_length_le (by omega)
    have h2 : σ.set i (some v) = σ := List.set_eq_of_length_le (by rw [s.sr.len]; omega)
    rw [h1, h2]
    exact s.drop
theorem sim_gname {i : Nat} : SimG K Φ (gName i) (GName i) [i] :=
  ⟨fun τ σ δ H v d Q q s h k => k _ _ _ s.set' (fun vs hv => wipe_set (hv i List.mem_cons_self)) (by unfold GName at h; rw [force_eq] at h; exact h)⟩
def GNil : List D → DSt → (DSt → Prop) → Prop := fun ds δ q => match ds with
  | [] => q δ
  | _ => False
def GCons (T : TDG) (U : List D → DSt → (DSt → Prop) → Prop) : List D → DSt → (DSt → Prop) → Prop := fun ds δ q => match ds with
  | d :: r => T d δ fun δ' => U r δ' q
  | _ => False
theorem sim_gnil : SimGs K Φ gNil GNil [] := by
  refine ⟨fun τ σ δ H vs ds Q q s r h k => ?_⟩
  cases ds with
  | nil => exact ⟨r, k σ δ H s (fun _ _ => rfl) h⟩
  | cons d ds => exact h.elim
theorem sim_gcons {i : Nat} {u : TGs} {U : List D → DSt → (DSt → Prop) → Prop} {is : List Nat} (hu : SimGs K Φ u U is) : SimGs K Φ (gCons (gName i) u) (GCons (GName i) U) (i :: is) := by
  refine ⟨fun τ σ δ H vs ds Q q s r h k => ?_⟩
  cases ds with
  | nil => exact h.elim
  | cons d ds =>
    obtain ⟨v, vr, e, h1, h2⟩ := r
    refine ⟨v, vr, e, ?_⟩
    have h : U ds (δ.set i (some (.imm d))) q := by
      have h : GName i d δ fun δ' => U ds δ' q := h
      unfold GName at h; rw [force_eq] at h; exact h
    have s0 := s.push h1
    have s1 : S K Φ (σ.set i (some v)) (δ.set i (some (.imm d))) τ H := s0.set'
    -- what is left avoids what is owned: the slot that is stored owns nothing
    have sub : ∀ b, Mm Φ (τ ++ ent (σ.set i (some v)) (δ.set i (some (.imm d)))) b → Mm Φ (τ ++ ent σ δ) b := by
      intro b hb
      rcases hb with hb | hb
      · exact .inl hb
      · refine .inr ?_
        rw [ownA_app, List.mem_append] at hb ⊢
        rcases hb with hb | hb
        · exact .inl hb
        · refine .inr ?_
          by_cases hi : i < σ.length
          · have p := ent_set (v := v) (w := .imm d) hi s.sr
            have hb2 := (ownA_perm p).mem_iff.mp hb
            rw [ownA_imm] at hb2
            have : ∀ (σ : St) (δ : DSt) (i : Nat), (ent σ (δ.set i none)).Sublist (ent σ δ) := by
              intro σ
              induction σ with
              | nil => intro δ i; cases δ <;> exact .refl _
              | cons u σ ih =>
                intro δ i
                cases δ with
                | nil => exact .refl _
                | cons w' δ =>
                  cases i with
                  | zero =>
                    show (ent (u :: σ) (none :: δ)).Sublist _
                    have x1 : ent (u :: σ) (none :: δ) = ent σ δ := by cases u <;> rfl
                    rw [x1]
                    cases u <;> cases w' <;> simp [ent]
                  | succ i =>
                    show (ent (u :: σ) (w' :: δ.set i none)).Sublist _
                    have := ih δ i
                    cases u <;> cases w' <;> simp [ent, this]
            exact (ownA_sub (this σ δ i)).subset hb2
          · have h1 : δ.set i (some (.imm d)) = δ := List.set_eq_of_length_le (by have := s.sr.len; omega)
            have h2 : σ.set i (some v) = σ := List.set_eq_of_length_le (by omega)
            rw [h1, h2] at hb
            exact hb
    refine hu.run τ _ _ H vr ds Q q s1 (RpA.keep Keep.refl sub ds vr h2) h fun σ' δ' H' s' hw hq => k σ' δ' H' s' (fun vs hv => ?_) hq
    rw [hw vs fun j hj => hv j (List.mem_cons_of_mem _ hj), wipe_set (hv i List.mem_cons_self)]
def GTup (n : Nat) (U : List D → DSt → (DSt → Prop) → Prop) : TDG := fun d δ q => match d with
  | .tup l => match Nat.beq l.length n with
    | true => U l δ q
    | false => False
  | _ => False
theorem sim_gtup {n : Nat} {u : TGs} {U : List D → DSt → (DSt → Prop) → Prop} {is : List Nat} (hu : SimGs K Φ u U is) : SimG K Φ (gTup K n u) (GTup n U) is := by
  refine ⟨fun τ σ δ H v d Q q s h k => ?_⟩
  cases d with
  | tup l =>
    obtain ⟨a, vs, e, hq, r⟩ := Ro.tup (s.g.imm (v := v) (d := .tup l) List.mem_cons_self).ro
    have h : (match Nat.beq l.length n with
      | true => U l δ q
      | false => False) := h
    cases hn : Nat.beq l.length n with
    | false => rw [hn] at h; exact h.elim
    | true =>
      rw [hn] at h
      refine ⟨a, vs, e, hq, by rw [r.len]; exact Nat.eq_of_beq_eq_true hn, ?_⟩
      refine hu.run τ σ δ H vs l Q q s.drop ?_ h k
      rw [List.cons_append] at r
      unfold Mm at r ⊢
      rw [ownA_imm] at r
      exact r
  | _ => exact h.elim

/-! ### assignments -/
/-- x = e, the value as data -/
def TSet (Ta : TD) (Tg : TDG) : TDS := fun Δ δ => Ta δ fun r δ1 => match datas δ1 [r] with
  | some (d :: _, δ2) => Tg d δ2 Δ.nx
  | _ => False
theorem datas_one {δ δ' : DSt} {r : R} {d : D} {ds : List D} (e : datas δ [r] = some (d :: ds, δ')) : ds = [] := by
  cases r with
  | val w =>
    cases w with
    | imm d' => simp [datas] at e; first | exact e.1.2 | exact e.1.2.symm
    | own k l =>
      cases k with
      | none => simp [datas] at e; first | exact e.1.2 | exact e.1.2.symm
      | some j => simp [datas] at e
  | slot i =>
    unfold datas at e
    split at e
    · simp [datas] at e; first | exact e.1.2 | exact e.1.2.symm
    · simp [datas] at e; first | exact e.1.2 | exact e.1.2.symm
    · cases e
theorem sim_set {t : TE} {g : TG} {T : TD} {Tg : TDG} {is : List Nat} (ha : SimE K Φ t T) (hg : SimG K Φ g Tg is) : SimS K Φ (tAsg t g) (TSet T Tg) := by
  refine ⟨fun τ σ δ H D Δ s h a _ _ _ => ?_⟩
  refine ha.run τ σ δ H _ _ s h fun v r δ1 H1 s1 e1 h1 => ?_
  cases q : datas δ1 [r] with
  | none => simp only [q] at h1
  | some p =>
    obtain ⟨ds, δ2⟩ := p
    cases ds with
    | nil => simp only [q] at h1
    | cons d ds =>
      simp only [q] at h1
      have := datas_one q
      subst this
      exact hg.run τ σ δ2 H1 v d _ _ (s1.data1 e1 q) h1 fun σ' δ' H' s' _ hq => a σ' δ' H' s' hq
/-- x = a list of the def's own, that it will change -/
def TSetO (Ta : TD) (i : Nat) : TDS := fun Δ δ => Ta δ fun r δ1 => match r with
  | .val (.own none l) => force (δ1.set i (some (.own none l))) Δ.nx
  | _ => False
theorem sim_setO {t : TE} {T : TD} {i : Nat} (ha : SimE K Φ t T) : SimS K Φ (tAsg t (gName i)) (TSetO T i) := by
  refine ⟨fun τ σ δ H D Δ s h a _ _ _ => ?_⟩
  refine ha.run τ σ δ H _ _ s h fun v r δ1 H1 s1 e1 h1 => ?_
  cases r with
  | slot j => exact h1.elim
  | val w =>
    cases w with
    | imm d => exact h1.elim
    | own k l =>
      cases k with
      | some j => exact h1.elim
      | none => exact a _ _ _ (S.set' s1) (by rw [← force_eq _ Δ.nx]; exact h1)

/-! ### loops -/
structure IterOk (K : PySem.W.Frag) (Φ : Fm) (J : It) (τ' : List (V × W)) (ds : List D) : Prop where
  go : ∀ σ δ τ H i, S K Φ σ δ (τ' ++ τ) H → i < ds.length → J.go i H
  yld : ∀ σ δ τ H i x H', S K Φ σ δ (τ' ++ τ) H → i < ds.length → J.yld i H x H' → ∃ d, ds[i]? = some d ∧ S K Φ σ δ ((x, .imm d) :: (τ' ++ τ)) H'
  stop : ∀ σ δ τ H i, S K Φ σ δ (τ' ++ τ) H → ds.length ≤ i → J.stop i H
abbrev TDI := DSt → (List D → DSt → Prop) → Prop
structure SimI (K : PySem.W.Frag) (Φ : Fm) (wi : TI) (Ti : TDI) : Prop where
  run : ∀ (τ : List (V × W)) (σ : St) (δ : DSt) (H : Hp) (Rr : It → Hp → Prop) (q : List D → DSt → Prop), S K Φ σ δ τ H → Ti δ q →
    (∀ J τ' ds δ' H', S K Φ σ δ' (τ' ++ τ) H' → IterOk K Φ J τ' ds → q ds δ' → Rr J H') → wi σ H Rr
def TFor (Ti : TDI) (Tg : TDG) (Tb : TDS) : TDS := fun Δ δ => Ti δ fun ds δ1 => ∃ I : Nat → DSt → Prop, I 0 δ1 ∧
  (∀ j d δ2, ds[j]? = some d → I j δ2 → Tg d δ2 fun δ3 => Tb { Δ with nx := I (j + 1), ct := I (j + 1), bk := Δ.nx } δ3) ∧ ∀ δ2, I ds.length δ2 → Δ.nx δ2
theorem sim_for {wi : TI} {g : TG} {tb : TS} {Ti : TDI} {Tg : TDG} {Tb : TDS} {is : List Nat} (hi : SimI K Φ wi Ti) (hg : SimG K Φ g Tg is) (hb : SimS K Φ tb Tb) : SimS K Φ (tFor wi g tb) (TFor Ti Tg Tb) := by
  refine ⟨fun τ σ δ H D Δ s h a b c d => ?_⟩
  refine hi.run τ σ δ H _ _ s h fun J τ' ds δ1 H1 s1 it h1 => ?_
  obtain ⟨I, h0, hs, he⟩ := h1
  refine ⟨fun i m σ H => m = ds.length - i ∧ i ≤ ds.length ∧ ∃ δ, I i δ ∧ S K Φ σ δ (τ' ++ τ) H, ⟨ds.length, by simp, Nat.zero_le _, δ1, h0, s1⟩, ?_⟩
  rintro i m σ2 H2 ⟨rfl, hi2, δ2, hI, s2⟩
  by_cases hlt : i < ds.length
  · refine .inr ⟨it.go σ2 δ2 τ H2 i s2 hlt, fun σ' H' => ∃ δ, I (i + 1) δ ∧ S K Φ σ' δ (τ' ++ τ) H', fun σ' H' p' => ⟨ds.length - (i + 1), by omega, rfl, hlt, p'⟩, fun x H' y => ?_⟩
    obtain ⟨dx, hd, s3⟩ := it.yld σ2 δ2 τ H2 i x H' s2 hlt y
    refine hg.run (τ' ++ τ) σ2 δ2 H' x dx _ _ s3 (hs i dx δ2 hd hI) fun σ3 δ3 H3 s4 _ h4 => ?_
    refine hb.run (τ' ++ τ) σ3 δ3 H3 _ _ s4 h4 (fun σ' δ' H' s' h' => ⟨δ', h', s'⟩) (fun v w σ' δ' H' s' h' => b v w σ' δ' H' (s'.sub ?_) h') (fun σ' δ' H' s' h' => a σ' δ' H' (s'.sub (List.sublist_append_right _ _)) h') (fun σ' δ' H' s' h' => ⟨δ', h', s'⟩)
    exact List.Sublist.cons_cons _ (List.sublist_append_right _ _)
  · have e : i = ds.length := by omega
    subst e
    exact .inl ⟨it.stop σ2 δ2 τ H2 _ s2 (Nat.le_refl _), a σ2 δ2 H2 (s2.sub (List.sublist_append_right _ _)) (he δ2 hI)⟩
def TWhile (Tc : TDT) (Tb : TDS) : TDS := fun Δ δ => ∃ I : Nat → DSt → Prop, (∃ m, I m δ) ∧ ∀ m δ2, I m δ2 → Tc δ2 fun b δ3 =>
  br b (Tb { Δ with nx := fun δ' => ∃ m', m' < m ∧ I m' δ', ct := fun δ' => ∃ m', m' < m ∧ I m' δ', bk := Δ.nx } δ3) (Δ.nx δ3)
theorem sim_while {tc : TT} {tb : TS} {Tc : TDT} {Tb : TDS} (hc : SimT K Φ tc Tc) (hb : SimS K Φ tb Tb) : SimS K Φ (tWhile tc tb) (TWhile Tc Tb) := by
  refine ⟨fun τ σ δ H D Δ s h a b c d => ?_⟩
  obtain ⟨I, ⟨m0, h0⟩, hs⟩ := h
  refine ⟨fun m σ H => ∃ δ, I m δ ∧ S K Φ σ δ τ H, ⟨m0, δ, h0, s⟩, ?_⟩
  rintro m σ2 H2 ⟨δ2, hI, s2⟩
  refine hc.run τ σ2 δ2 H2 _ _ s2 (hs m δ2 hI) fun x δ3 H3 s3 h3 => ?_
  cases x with
  | true =>
    rw [if_pos rfl]
    refine ⟨fun σ' H' => ∃ m', m' < m ∧ ∃ δ, I m' δ ∧ S K Φ σ' δ τ H', fun σ' H' h => h, ?_⟩
    exact hb.run τ σ2 δ3 H3 _ _ s3 h3 (fun σ' δ' H' s' ⟨m', hm, h'⟩ => ⟨m', hm, δ', h', s'⟩) b (fun σ' δ' H' s' h' => a σ' δ' H' s' h') (fun σ' δ' H' s' ⟨m', hm, h'⟩ => ⟨m', hm, δ', h', s'⟩)
  | false =>
    rw [if_neg Bool.false_ne_true]
    exact a σ2 δ3 H3 s3 h3
end
end DL

namespace DL
open PySem L2

/-! ### what a def promises, in data -/
/-- the arguments (one of them a list that the def changes, or none), the wanted end: the answer, what the list has become -/
abbrev DSp := List W → (W → List D → Prop) → Prop
def ownAt : List W → Option Nat
  | [] => none
  | .own _ _ :: _ => some 0
  | .imm _ :: ws => (ownAt ws).map (· + 1)
def oneOwn : List W → Bool
  | [] => true
  | .own _ _ :: ws => (ownAt ws).isNone
  | .imm _ :: ws => oneOwn ws
def okW : W → Bool
  | .own (some _) _ => false
  | _ => true
def outI (vs : List V) (ws : List W) (l' : List D) : List (V × W) := match ownAt ws with
  | none => []
  | some n => match vs[n]? with
    | some v => [(v, .own (some n) l')]
    | none => []
def ArgsOk (K : PySem.W.Frag) (H : Hp) (B : Addr → Prop) : List V → List W → Prop
  | [], [] => True
  | v :: vs, .imm d :: ws => Rp K H B d v ∧ ArgsOk K H B vs ws
  | v :: vs, .own _ l :: ws => (∃ a xs, v = .ref a ∧ B a ∧ H a = some (.lst xs) ∧ RpA K H B l xs) ∧ ArgsOk K H B vs ws
  | _, _ => False
def lift (K : PySem.W.Frag) (sp : DSp) : Sp := fun vs H Q _ => ∃ (ws : List W) (B : Addr → Prop), (∀ b, B b → H b ≠ none) ∧ ArgsOk K H B vs ws ∧ oneOwn ws = true ∧
  sp ws fun w l' => ∀ v H', okW w = true → G K ⟨H, B, vs, ownA (vs.zip ws)⟩ ((v, w) :: outI vs ws l') H' → Q v H'
theorem ArgsOk.len {K : PySem.W.Frag} {H : Hp} {B : Addr → Prop} : ∀ {vs : List V} {ws : List W}, ArgsOk K H B vs ws → vs.length = ws.length
  | [], [], _ => rfl
  | _ :: _, .imm _ :: _, h => by simp [ArgsOk.len h.2]
  | _ :: _, .own _ _ :: _, h => by simp [ArgsOk.len h.2]
  | [], .imm _ :: _, h => h.elim
  | [], .own _ _ :: _, h => h.elim
  | _ :: _, [], h => h.elim

/-! ### a def, by its body -/
def args0 : Nat → List W → DSt
  | _, [] => []
  | n, .imm d :: ws => some (.imm d) :: args0 (n + 1) ws
  | n, .own _ l :: ws => some (.own (some n) l) :: args0 (n + 1) ws
def start0 (m : Nat) (ws : List W) : DSt := args0 0 ws ++ List.replicate (m - ws.length) none
/-- the ends of a body that is to keep sp's wish q -/
def rtE (ws : List W) (q : W → List D → Prop) (w : W) (δ : DSt) : Prop := match w with
  | .own (some _) _ => False
  | w => match ownAt ws with
    | none => q w []
    | some n => match δ[n]? with
      | some (some (.own (some m) l')) => match Nat.beq m n with
        | true => q w l'
        | false => False
      | _ => False
def endsE (ws : List W) (q : W → List D → Prop) : DEnds := { nx := fun δ => rtE ws q (.imm .non) δ, rt := rtE ws q }
theorem ownA_zip_none {vs : List V} : ∀ {ws : List W}, ownAt ws = none → ownA (vs.zip ws) = [] := by
  induction vs with
  | nil => intro ws _; cases ws <;> rfl
  | cons v vs ih =>
    intro ws h
    cases ws with
    | nil => rfl
    | cons w ws =>
      cases w with
      | imm d =>
        rw [List.zip_cons_cons, ownA_imm]
        refine ih ?_
        unfold ownAt at h
        cases e : ownAt ws with
        | none => rfl
        | some n => rw [e] at h; cases h
      | own k l => cases h
theorem ownA_zip_one {K : PySem.W.Frag} {H : Hp} {B : Addr → Prop} : ∀ {vs : List V} {ws : List W} {n : Nat}, ArgsOk K H B vs ws → oneOwn ws = true → ownAt ws = some n → ∃ a, vs[n]? = some (.ref a) ∧ ownA (vs.zip ws) = [a] ∧ ∃ k l xs, ws[n]? = some (.own k l) ∧ B a ∧ H a = some (.lst xs) ∧ RpA K H B l xs
  | [], [], _, _, _, h => by cases h
  | v :: vs, .imm d :: ws, n, h, h1, h2 => by
    have h2 : (ownAt ws).map (· + 1) = some n := h2
    cases e : ownAt ws with
    | none => rw [e] at h2; cases h2
    | some m =>
      rw [e] at h2
      cases h2
      obtain ⟨a, e1, e2, z⟩ := ownA_zip_one h.2 h1 e
      exact ⟨a, by simpa using e1, by rw [List.zip_cons_cons, ownA_imm]; exact e2, by simpa using z⟩
  | v :: vs, .own k l :: ws, n, h, h1, h2 => by
    obtain ⟨⟨a, xs, e, hb, ha, r⟩, h3⟩ := h
    cases h2
    subst e
    have e3 : ownAt ws = none := by
      have h1 : (ownAt ws).isNone = true := h1
      cases q : ownAt ws with
      | none => rfl
      | some m => rw [q] at h1; cases h1
    exact ⟨a, rfl, by rw [List.zip_cons_cons, ownA_own, ownA_zip_none e3], k, l, xs, rfl, hb, ha, r⟩
  | [], .imm _ :: _, _, h, _, _ => h.elim
  | [], .own _ _ :: _, _, h, _, _ => h.elim
  | _ :: _, [], _, h, _, _ => h.elim
theorem ent_repl {m : Nat} : ∀ {σ : St} {δ : DSt}, σ.length = δ.length → ent (σ ++ List.replicate m none) (δ ++ List.replicate m none) = ent σ δ
  | [], [], _ => by
    induction m with
    | zero => rfl
    | succ m ih => simpa [List.replicate_succ, ent] using ih
  | o :: σ, w :: δ, h => by
    have h2 : σ.length = δ.length := by simpa using h
    have := ent_repl (m := m) h2
    cases o <;> cases w <;> simp [ent, this]
  | [], _ :: _, h => by simp at h
  | _ :: _, [], h => by simp at h
theorem SR_repl {m : Nat} : ∀ {σ : St} {δ : DSt}, SR σ δ → SR (σ ++ List.replicate m none) (δ ++ List.replicate m none)
  | [], [], _ => by
    induction m with
    | zero => trivial
    | succ m ih => simpa [List.replicate_succ, SR] using ih
  | o :: σ, none :: δ, h => by
    have h : SR σ δ := by cases o <;> exact h
    have := SR_repl (m := m) h
    show SR (o :: (σ ++ List.replicate m none)) (none :: (δ ++ List.replicate m none))
    cases o <;> exact this
  | some _ :: σ, some _ :: δ, h => by
    have h : SR σ δ := h
    have := SR_repl (m := m) h
    exact this
  | none :: _, some _ :: _, h => h.elim
  | [], _ :: _, h => h.elim
  | o :: _, [], h => by cases o <;> exact h.elim
theorem args_ent {K : PySem.W.Frag} {H : Hp} {B : Addr → Prop} : ∀ {vs : List V} {ws : List W} (n : Nat), ArgsOk K H B vs ws → SR (vs.map some) (args0 n ws) ∧ ownA (ent (vs.map some) (args0 n ws)) = ownA (vs.zip ws) ∧
    ∀ p ∈ ent (vs.map some) (args0 n ws), ∃ i, vs[i]? = some p.1 ∧ match p.2 with
      | .imm d => Rp K H B d p.1
      | .own k l => k = some (n + i) ∧ ∃ a xs, p.1 = .ref a ∧ B a ∧ H a = some (.lst xs) ∧ RpA K H B l xs ∧ a ∈ ownA (vs.zip ws)
  | [], [], _, _ => ⟨trivial, rfl, fun _ h => nomatch h⟩
  | v :: vs, .imm d :: ws, n, h => by
    obtain ⟨h1, h2, h3⟩ := args_ent (n + 1) h.2
    refine ⟨h1, ?_, fun p hp => ?_⟩
    · show ownA ((v, .imm d) :: ent (vs.map some) (args0 (n + 1) ws)) = _
      rw [ownA_imm, h2, List.zip_cons_cons, ownA_imm]
    · have hp : p ∈ (v, .imm d) :: ent (vs.map some) (args0 (n + 1) ws) := hp
      rcases List.mem_cons.mp hp with rfl | hp
      · exact ⟨0, rfl, h.1⟩
      · obtain ⟨i, e, q⟩ := h3 p hp
        refine ⟨i + 1, by simpa using e, ?_⟩
        obtain ⟨pv, pw⟩ := p
        cases pw with
        | imm d' => exact q
        | own k l =>
          obtain ⟨e1, a, xs, e2, e3, e4, e5, e6⟩ := q
          refine ⟨by rw [e1]; congr 1; omega, a, xs, e2, e3, e4, e5, ?_⟩
          rw [List.zip_cons_cons, ownA_imm]
          exact e6
  | v :: vs, .own k l :: ws, n, h => by
    obtain ⟨⟨a, xs, e, hb, ha, r⟩, h0⟩ := h
    subst e
    obtain ⟨h1, h2, h3⟩ := args_ent (n + 1) h0
    refine ⟨h1, ?_, fun p hp => ?_⟩
    · show ownA ((V.ref a, .own (some n) l) :: ent (vs.map some) (args0 (n + 1) ws)) = _
      rw [ownA_own, h2, List.zip_cons_cons, ownA_own]
    · have hp : p ∈ (V.ref a, W.own (some n) l) :: ent (vs.map some) (args0 (n + 1) ws) := hp
      rcases List.mem_cons.mp hp with rfl | hp
      · exact ⟨0, rfl, rfl, a, xs, rfl, hb, ha, r, by rw [List.zip_cons_cons, ownA_own]; exact List.mem_cons_self⟩
      · obtain ⟨i, e, q⟩ := h3 p hp
        refine ⟨i + 1, by simpa using e, ?_⟩
        obtain ⟨pv, pw⟩ := p
        cases pw with
        | imm d' => exact q
        | own k l =>
          obtain ⟨e1, a', xs', e2, e3, e4, e5, e6⟩ := q
          refine ⟨by rw [e1]; congr 1; omega, a', xs', e2, e3, e4, e5, ?_⟩
          rw [List.zip_cons_cons, ownA_own]
          exact List.mem_cons_of_mem _ e6
  | [], .imm _ :: _, _, h => h.elim
  | [], .own _ _ :: _, _, h => h.elim
  | _ :: _, [], _, h => h.elim
theorem start_S {K : PySem.W.Frag} {H : Hp} {B : Addr → Prop} {vs : List V} {ws : List W} {N : List Str} (hB : ∀ b, B b → H b ≠ none) (h : ArgsOk K H B vs ws) (h1 : oneOwn ws = true) :
    S K ⟨H, B, vs, ownA (vs.zip ws)⟩ (L2.start N vs) (start0 N.length ws) [] H := by
  obtain ⟨a1, a2, a3⟩ := args_ent 0 h
  have el : (vs.map some).length = (args0 0 ws).length := a1.len
  unfold L2.start start0
  rw [h.len]
  refine ⟨SR_repl a1, ?_⟩
  rw [List.nil_append, ent_repl el]
  have sub : ∀ b, b ∈ ownA (vs.zip ws) → B b := by
    intro b hb
    cases q : ownAt ws with
    | none => rw [ownA_zip_none q] at hb; cases hb
    | some n =>
      obtain ⟨a, e1, e2, k, l, xs, _, hBa, _⟩ := ownA_zip_one h h1 q
      rw [e2] at hb
      rw [List.mem_singleton.mp hb]
      exact hBa
  have eM : ∀ b, Mm ⟨H, B, vs, ownA (vs.zip ws)⟩ (ent (vs.map some) (args0 0 ws)) b → B b := by
    rintro b (hb | hb)
    · exact hb
    · rw [a2] at hb
      exact sub b hb
  refine ⟨fun b o e _ => e, fun b e => e, hB, ?_, fun p hp => ?_⟩
  · rw [a2]
    cases q : ownAt ws with
    | none => rw [ownA_zip_none q]; exact List.nodup_nil
    | some n =>
      obtain ⟨a, e1, e2, _⟩ := ownA_zip_one h h1 q
      rw [e2]
      simp
  · obtain ⟨i, e, q⟩ := a3 p hp
    obtain ⟨pv, pw⟩ := p
    cases pw with
    | imm d => exact Rp.keep Keep.refl eM d pv q
    | own k l =>
      obtain ⟨e1, a, xs, e2, e3, e4, e5, e6⟩ := q
      have e2 : pv = .ref a := e2
      subst e2 e1
      refine ⟨a, xs, rfl, e4, RpA.keep Keep.refl eM l xs e5, ?_, e6⟩
      show vs[0 + i]? = some (.ref a)
      rw [Nat.zero_add]
      exact e
theorem G.mem {K : PySem.W.Frag} {Φ : Fm} {inv inv' : List (V × W)} {H : Hp} (g : G K Φ inv H) (hs : ∀ p ∈ inv', p ∈ inv) (nd : (ownA inv').Nodup) : G K Φ inv' H := by
  refine ⟨g.keep, g.dom, g.bd, nd, fun p hp => ?_⟩
  refine (g.all p (hs p hp)).keep Keep.refl (fun a h => ?_) fun _ _ _ _ _ _ h => h
  refine h.imp id fun h => ?_
  obtain ⟨k, l, h⟩ := ownA_mem.mp h
  exact ownA_mem.mpr ⟨k, l, hs _ h⟩
/-- the ends: what a body reaches is what its caller was promised -/
theorem rt_ok {K : PySem.W.Frag} {H H' : Hp} {B : Addr → Prop} {vs : List V} {ws : List W} {q : W → List D → Prop} {Q : VK} {σ : St} {δ : DSt} {τ : List (V × W)} {v : V} {w : W} (h : ArgsOk K H B vs ws) (h1 : oneOwn ws = true)
    (s : S K ⟨H, B, vs, ownA (vs.zip ws)⟩ σ δ ((v, w) :: τ) H') (e : rtE ws q w δ)
    (hq : ∀ w l', q w l' → ∀ v H', okW w = true → G K ⟨H, B, vs, ownA (vs.zip ws)⟩ ((v, w) :: outI vs ws l') H' → Q v H') : Q v H' := by
  have hw : okW w = true ∧ (match ownAt ws with
      | none => q w []
      | some n => match δ[n]? with
        | some (some (.own (some m) l')) => match Nat.beq m n with
          | true => q w l'
          | false => False
        | _ => False) := by
    cases w with
    | imm d => exact ⟨rfl, e⟩
    | own k l =>
      cases k with
      | none => exact ⟨rfl, e⟩
      | some j => exact e.elim
  obtain ⟨ok, e⟩ := hw
  cases q1 : ownAt ws with
  | none =>
    simp only [q1] at e
    refine hq w [] e v H' ok ?_
    unfold outI
    rw [q1]
    exact s.g.sub (List.Sublist.cons_cons _ (List.nil_sublist _))
  | some n =>
    simp only [q1] at e
    obtain ⟨a, ea, e2, _⟩ := ownA_zip_one h h1 q1
    cases q2 : δ[n]? with
    | none => simp only [q2] at e
    | some o =>
      cases o with
      | none => simp only [q2] at e
      | some w' =>
        cases w' with
        | imm d => simp only [q2] at e
        | own k l' =>
          cases k with
          | none => simp only [q2] at e
          | some m =>
            simp only [q2] at e
            cases q3 : Nat.beq m n with
            | false => simp only [q3] at e
            | true =>
              simp only [q3] at e
              have em : m = n := Nat.eq_of_beq_eq_true q3
              subst em
              obtain ⟨u, hu, p⟩ := s.sr.get q2
              have hm : (u, W.own (some m) l') ∈ ((v, w) :: τ) ++ ent σ δ := List.mem_append_right _ (p.mem_iff.mpr List.mem_cons_self)
              obtain ⟨a', xs, eu, hx, hr, hp, hin⟩ := s.g.all _ hm
              have eu : u = .ref a' := eu
              have hp : vs[m]? = some (V.ref a') := hp
              rw [ea] at hp
              cases hp
              subst eu
              refine hq w l' e v H' ok ?_
              unfold outI
              rw [q1]
              simp only [ea]
              refine s.g.mem (fun x hx => ?_) ?_
              · rcases List.mem_cons.mp hx with rfl | hx
                · exact List.mem_cons_self
                · rw [List.mem_singleton.mp hx]; exact hm
              · have nd := s.g.nd
                cases w with
                | imm d => rw [ownA_imm]; simp [ownA]
                | own k2 l2 =>
                  obtain ⟨b, ys, ev, _⟩ := s.g.all (v, .own k2 l2) List.mem_cons_self
                  have ev : v = .ref b := ev
                  subst ev
                  rw [List.cons_append, ownA_own] at nd
                  have hn := (List.nodup_cons.mp nd).1
                  have hm2 : a ∈ ownA (τ ++ ent σ δ) := by
                    refine ownA_mem.mpr ⟨some m, l', ?_⟩
                    exact List.mem_append_right _ (p.mem_iff.mpr List.mem_cons_self)
                  rw [ownA_own, ownA_own]
                  simp only [ownA, List.nodup_cons, List.mem_singleton, List.not_mem_nil, not_false_eq_true, List.nodup_nil, and_true]
                  intro eb
                  exact hn (by rw [eb]; exact hm2)
/-- THE RULE for a def of the text -/
theorem dfn {P : Program} {w : World} {K : PySem.W.Frag} {mg : Str → Option Value} {base : Heap} {x qual : Str} {st : Stmt} {f : Addr} {fd : FuncData} {N ps : List Str} {k : Nat} {sp : DSp} (F : Fun K x qual st f fd) (Sc : FnScope N ps (defScope st))
    (len : ∀ ws q, sp ws q → ws.length = ps.length)
    (hbody : ∀ (cdv : Value) (A : Around) (outer : List Env) (s : Shared) (H : Hp) (E : XK) (Φ : Fm), Room k (A.deeper (PyProof.Rows.envOfC qual (defScope st) s.heap.objs.size f cdv)) →
      ∃ t T, PSs (cxOf CX0 P w K mg base N qual (defScope st) f cdv A outer s H E).nox (defBody st) t ∧ SimS K Φ t T ∧ ∀ ws q, sp ws q → T (endsE ws q) (start0 N.length ws)) :
    FnOk P w K mg base CX0 (k + 1) f fd ps (lift K sp) := by
  refine F.ok Sc (fun vs H Q E h => ?_) (fun cdv A outer s H vs Q E hr h => ?_)
  · obtain ⟨ws, B, hB, ha, h1, h2⟩ := h
    rw [ha.len]
    exact len _ _ h2
  · obtain ⟨ws, B, hB, ha, h1, h2⟩ := h
    obtain ⟨t, T, hp, hs, hT⟩ := hbody cdv A outer s H E ⟨H, B, vs, ownA (vs.zip ws)⟩ hr
    refine ⟨t, hp, ?_⟩
    refine hs.run [] _ _ H _ _ (start_S hB ha h1) (hT ws _ h2) (fun σ' δ' H' s' h' => ?_) (fun v w σ' δ' H' s' h' => ?_) (fun σ' δ' H' s' h' => h'.elim) (fun σ' δ' H' s' h' => h'.elim)
    · exact rt_ok (Q := Q) (q := fun w l' => ∀ v H', okW w = true → G K ⟨H, B, vs, ownA (vs.zip ws)⟩ ((v, w) :: outI vs ws l') H' → Q v H') ha h1 (s'.push (v := .non) (d := .non) rfl) h' fun w l' h => h
    · exact rt_ok (Q := Q) (q := fun w l' => ∀ v H', okW w = true → G K ⟨H, B, vs, ownA (vs.zip ws)⟩ ((v, w) :: outI vs ws l') H' → Q v H') ha h1 s' h' fun w l' h => h
end DL

namespace DL
open PySem L2

section
variable {K : PySem.W.Frag} {H H' : Hp} {M M' : Addr → Prop}
mutual
theorem Rp.wide : ∀ (d : D) (v : V), Rp K H M d v → Rp K H (fun b => M b ∨ H b = none) d v
  | .non, _, h => h
  | .bl _, _, h => h
  | .int _, _, h => h
  | .str _, _, h => h
  | .ty _, _, h => h
  | .tup l, v, h => by
    obtain ⟨a, vs, e, q, r⟩ := h
    refine ⟨a, vs, e, ?_, RpA.wide l vs r⟩
    rcases q with ⟨q, n⟩ | q
    · refine .inl ⟨q, fun z => z.elim n fun z => ?_⟩
      rcases q with q | ⟨o, q⟩ <;> rw [z] at q <;> cases q
    · exact .inr q
  | .lst l, v, h => by
    obtain ⟨a, vs, e, q, n, r⟩ := h
    refine ⟨a, vs, e, q, fun z => z.elim n fun z => ?_, RpA.wide l vs r⟩
    rw [z] at q
    cases q
  | .fz l, v, h => by
    obtain ⟨a, vs, e, q, r⟩ := h
    refine ⟨a, vs, e, ?_, RpA.wide l vs r⟩
    rcases q with ⟨q, n⟩ | q
    · refine .inl ⟨q, fun z => z.elim n fun z => ?_⟩
      rcases q with q | ⟨o, q⟩ <;> rw [z] at q <;> cases q
    · exact .inr q
theorem RpA.wide : ∀ (ds : List D) (vs : List V), RpA K H M ds vs → RpA K H (fun b => M b ∨ H b = none) ds vs
  | [], _, h => h
  | d :: ds, vs, h => by
    obtain ⟨v, r, e, h1, h2⟩ := h
    exact ⟨v, r, e, Rp.wide d v h1, RpA.wide ds r h2⟩
end
/-- behind a heap that grew and changed at M alone: new addresses may be told away from, too -/
theorem Rp.on (k : ∀ b o, H b = some o → ¬ M b → H' b = some o) (s : ∀ b, M' b → M b ∨ H b = none) {d : D} {v : V} (h : Rp K H M d v) : Rp K H' M' d v :=
  Rp.keep (M := fun b => M b ∨ H b = none) (fun b o e n => k b o e fun z => n (.inl z)) s d v (Rp.wide d v h)
theorem RpA.on (k : ∀ b o, H b = some o → ¬ M b → H' b = some o) (s : ∀ b, M' b → M b ∨ H b = none) {d : List D} {v : List V} (h : RpA K H M d v) : RpA K H' M' d v :=
  RpA.keep (M := fun b => M b ∨ H b = none) (fun b o e n => k b o e fun z => n (.inl z)) s d v (RpA.wide d v h)
end

theorem Mm_perm {Φ : Fm} {x y : List (V × W)} (p : x.Perm y) : Mm Φ x = Mm Φ y := by
  funext b
  exact propext (or_congr Iff.rfl (ownA_perm p).mem_iff)
section
variable {K : PySem.W.Frag} {Φ : Fm} {inv : List (V × W)} {H H1 H' : Hp}
theorem okW_cases {w : W} (h : okW w = true) : (∃ d, w = .imm d) ∨ ∃ l, w = .own none l := by
  cases w with
  | imm d => exact .inl ⟨d, rfl⟩
  | own k l =>
    cases k with
    | none => exact .inr ⟨l, rfl⟩
    | some j => cases h
theorem G.dom' (g : G K Φ inv H1) {b : Addr} (h : Mm Φ inv b) : H1 b ≠ none := fun e => g.untracked e h
theorem G.after1 {c : Addr} {k : Option Nat} {l l' : List D} {vs : List V} {n : Nat} {v : V} {w : W} (g : G K Φ ((.ref c, .own k l) :: inv) H1) (ok : okW w = true)
    (g' : G K ⟨H1, Mm Φ ((.ref c, .own k l) :: inv), vs, [c]⟩ [(v, w), (.ref c, .own (some n) l')] H') : G K Φ ((v, w) :: (.ref c, .own k l') :: inv) H' := by
  have cM : Mm Φ ((.ref c, .own k l) :: inv) c := .inr (by rw [ownA_own]; exact List.mem_cons_self)
  obtain ⟨c', xs0, ec, hc0, _, hk0⟩ := g.all _ List.mem_cons_self
  have ec : V.ref c = .ref c' := ec
  cases ec
  have kp : ∀ b o, H1 b = some o → ¬ Mm Φ ((.ref c, .own k l) :: inv) b → H' b = some o := fun b o e nm => g'.keep b o e fun z => nm (by rw [List.mem_singleton.mp z]; exact cM)
  have new : ∀ b, b ∈ ownA [(v, w)] → H1 b = none := by
    intro b hb
    rcases okW_cases ok with ⟨d, rfl⟩ | ⟨lw, rfl⟩
    · rw [ownA_imm] at hb; cases hb
    · obtain ⟨a, ys, ea, _, _, h0⟩ := g'.all _ List.mem_cons_self
      have ea : v = .ref a := ea
      subst ea
      rw [ownA_own] at hb
      rcases List.mem_cons.mp hb with rfl | hb
      · exact h0
      · cases hb
  have own2 : ownA ((v, w) :: (.ref c, .own k l') :: inv) = ownA [(v, w)] ++ c :: ownA inv := by
    rw [show (v, w) :: (V.ref c, W.own k l') :: inv = [(v, w)] ++ ((V.ref c, W.own k l') :: inv) from rfl, ownA_app, ownA_own]
  have sM : ∀ b, Mm Φ ((v, w) :: (.ref c, .own k l') :: inv) b → Mm Φ ((.ref c, .own k l) :: inv) b ∨ H1 b = none := by
    rintro b (hb | hb)
    · exact .inl (.inl hb)
    · rw [own2, List.mem_append] at hb
      rcases hb with hb | hb
      · exact .inr (new b hb)
      · exact .inl (.inr (by rw [ownA_own]; exact hb))
  have nd1 := g.nd
  rw [ownA_own] at nd1
  refine ⟨fun b o e nb => ?_, fun b e => g'.dom b (g.dom b e), g.bd, ?_, fun p hp => ?_⟩
  · refine g'.keep b o (g.keep b o e nb) fun z => ?_
    rw [List.mem_singleton.mp z] at e nb
    cases k with
    | none => rw [show Φ.H0 c = none from hk0] at e; cases e
    | some j => exact nb hk0.2
  · rw [own2]
    have h1 : (ownA [(v, w)]).Nodup := by
      have := g'.nd
      rw [show [(v, w), (V.ref c, W.own (some n) l')] = [(v, w)] ++ [(V.ref c, W.own (some n) l')] from rfl, ownA_app] at this
      exact (List.nodup_append.mp this).1
    refine List.nodup_append.mpr ⟨h1, nd1, fun a ha b hb e => ?_⟩
    subst e
    have hn := new a ha
    exact g.untracked hn (.inr (by rw [ownA_own]; exact hb))
  · have sM' : ∀ b, Mm Φ ((v, w) :: (.ref c, .own k l') :: inv) b → Mm ⟨H1, Mm Φ ((.ref c, .own k l) :: inv), vs, [c]⟩ [(v, w), (.ref c, .own (some n) l')] b := by
      rintro b (hb | hb)
      · exact .inl (.inl hb)
      · rw [own2, List.mem_append] at hb
        rcases hb with hb | hb
        · refine .inr ?_
          rw [show [(v, w), (V.ref c, W.own (some n) l')] = [(v, w)] ++ [(V.ref c, W.own (some n) l')] from rfl, ownA_app]
          exact List.mem_append_left _ hb
        · exact .inl (.inr (by rw [ownA_own]; exact hb))
    rcases List.mem_cons.mp hp with rfl | hp
    · have h0 := g'.all _ List.mem_cons_self
      rcases okW_cases ok with ⟨d, rfl⟩ | ⟨lw, rfl⟩
      · exact Rp.keep Keep.refl sM' d v h0
      · obtain ⟨a, ys, ea, h1, h2, h3⟩ := h0
        refine ⟨a, ys, ea, h1, RpA.keep Keep.refl sM' lw ys h2, ?_⟩
        show Φ.H0 a = none
        have h3 : H1 a = none := h3
        cases q : Φ.H0 a with
        | none => rfl
        | some o => exact absurd h3 (g.dom a (by rw [q]; simp))
    · rcases List.mem_cons.mp hp with rfl | hp
      · obtain ⟨a, ys, ea, h1, h2, h3⟩ := g'.all _ (List.mem_cons_of_mem _ List.mem_cons_self)
        exact ⟨a, ys, ea, h1, RpA.keep Keep.refl sM' l' ys h2, by cases ea; exact hk0⟩
      · have hx := g.all p (List.mem_cons_of_mem _ hp)
        obtain ⟨pv, pw⟩ := p
        cases pw with
        | imm d => exact Rp.on kp sM hx
        | own j m =>
          obtain ⟨a, ys, ea, h1, h2, h3⟩ := hx
          have ea : pv = .ref a := ea
          subst ea
          refine ⟨a, ys, rfl, ?_, RpA.on kp sM h2, h3⟩
          refine g'.keep a _ h1 fun z => ?_
          rw [List.mem_singleton.mp z] at hp
          exact (List.nodup_cons.mp nd1).1 (ownA_mem.mpr ⟨j, m, hp⟩)
theorem G.after0 {vs : List V} {v : V} {w : W} (g : G K Φ inv H1) (ok : okW w = true) (g' : G K ⟨H1, Mm Φ inv, vs, []⟩ [(v, w)] H') : G K Φ ((v, w) :: inv) H' := by
  have kp : ∀ b o, H1 b = some o → ¬ Mm Φ inv b → H' b = some o := fun b o e nm => g'.keep b o e (by exact List.not_mem_nil)
  have new : ∀ b, b ∈ ownA [(v, w)] → H1 b = none := by
    intro b hb
    rcases okW_cases ok with ⟨d, rfl⟩ | ⟨lw, rfl⟩
    · rw [ownA_imm] at hb; cases hb
    · obtain ⟨a, ys, ea, _, _, h0⟩ := g'.all _ List.mem_cons_self
      have ea : v = .ref a := ea
      subst ea
      rw [ownA_own] at hb
      rcases List.mem_cons.mp hb with rfl | hb
      · exact h0
      · cases hb
  have own2 : ownA ((v, w) :: inv) = ownA [(v, w)] ++ ownA inv := by
    rw [show (v, w) :: inv = [(v, w)] ++ inv from rfl, ownA_app]
  have sM : ∀ b, Mm Φ ((v, w) :: inv) b → Mm Φ inv b ∨ H1 b = none := by
    rintro b (hb | hb)
    · exact .inl (.inl hb)
    · rw [own2, List.mem_append] at hb
      rcases hb with hb | hb
      · exact .inr (new b hb)
      · exact .inl (.inr hb)
  have sM' : ∀ b, Mm Φ ((v, w) :: inv) b → Mm ⟨H1, Mm Φ inv, vs, []⟩ [(v, w)] b := by
    rintro b (hb | hb)
    · exact .inl (.inl hb)
    · rw [own2, List.mem_append] at hb
      rcases hb with hb | hb
      · exact .inr hb
      · exact .inl (.inr hb)
  refine ⟨fun b o e nb => g'.keep b o (g.keep b o e nb) (by exact List.not_mem_nil), fun b e => g'.dom b (g.dom b e), g.bd, ?_, fun p hp => ?_⟩
  · rw [own2]
    refine List.nodup_append.mpr ⟨g'.nd, g.nd, fun a ha b hb e => ?_⟩
    subst e
    exact g.untracked (new a ha) (.inr hb)
  · rcases List.mem_cons.mp hp with rfl | hp
    · have h0 := g'.all _ List.mem_cons_self
      rcases okW_cases ok with ⟨d, rfl⟩ | ⟨lw, rfl⟩
      · exact Rp.keep Keep.refl sM' d v h0
      · obtain ⟨a, ys, ea, h1, h2, h3⟩ := h0
        refine ⟨a, ys, ea, h1, RpA.keep Keep.refl sM' lw ys h2, ?_⟩
        show Φ.H0 a = none
        have h3 : H1 a = none := h3
        cases q : Φ.H0 a with
        | none => rfl
        | some o => exact absurd h3 (g.dom a (by rw [q]; simp))
    · have hx := g.all p hp
      obtain ⟨pv, pw⟩ := p
      cases pw with
      | imm d => exact Rp.on kp sM hx
      | own j m =>
        obtain ⟨a, ys, ea, h1, h2, h3⟩ := hx
        exact ⟨a, ys, ea, g'.keep a _ h1 (by exact List.not_mem_nil), RpA.on kp sM h2, h3⟩
end

/-! ### calls of the text's defs -/
def passW : List Bool → List R → DSt → Option (List W × DSt × Option Nat)
  | [], [], δ => some ([], δ, none)
  | false :: ms, r :: rs, δ => match datas δ [r] with
    | some (d :: _, δ1) => match passW ms rs δ1 with
      | some (ws, δ2, o) => some (.imm d :: ws, δ2, o)
      | none => none
    | _ => none
  | true :: ms, .slot i :: rs, δ => match passW ms rs δ with
    | some (ws, δ2, none) => match δ2[i]? with
      | some (some (.own _ l)) => some (.own none l :: ws, δ2, some i)
      | _ => none
    | _ => none
  | _, _, _ => none
def backW (o : Option Nat) (l' : List D) (δ : DSt) : DSt := match o with
  | none => δ
  | some i => match δ[i]? with
    | some (some (.own k _)) => δ.set i (some (.own k l'))
    | _ => δ
section
variable {K : PySem.W.Frag} {Φ : Fm} {σ : St}
theorem passW_ok {H : Hp} : ∀ {ms : List Bool} {vs : List V} {rs : List R} {δ δ2 : DSt} {τ : List (V × W)} {ws : List W} {o : Option Nat}, S K Φ σ δ (tmps vs rs ++ τ) H → RSs σ vs rs → passW ms rs δ = some (ws, δ2, o) →
    S K Φ σ δ2 τ H ∧ ArgsOk K H (Mm Φ (τ ++ ent σ δ2)) vs ws ∧ oneOwn ws = true ∧ (match o with
      | none => ownAt ws = none
      | some i => ∃ n v k l, ownAt ws = some n ∧ vs[n]? = some v ∧ σ[i]? = some (some v) ∧ δ2[i]? = some (some (.own k l)))
  | [], [], [], δ, δ2, τ, ws, o, s, _, e => by
    cases e
    exact ⟨s, trivial, rfl, rfl⟩
  | false :: ms, v :: vs, r :: rs, δ, δ2, τ, ws, o, s, h, e => by
    have e : (match datas δ [r] with
      | some (d :: _, δ1) => match passW ms rs δ1 with
        | some (ws, δ2, o) => some (W.imm d :: ws, δ2, o)
        | none => none
      | _ => none) = some (ws, δ2, o) := e
    cases q1 : datas δ [r] with
    | none => simp only [q1] at e; cases e
    | some p =>
      obtain ⟨ds, δ1⟩ := p
      cases ds with
      | nil => simp only [q1] at e; cases e
      | cons d ds =>
        simp only [q1] at e
        have := datas_one q1
        subst this
        cases q2 : passW ms rs δ1 with
        | none => simp only [q2] at e; cases e
        | some p =>
          obtain ⟨ws', δ', o'⟩ := p
          simp only [q2] at e
          cases e
          have s0 : S K Φ σ δ (tmp v r ++ (tmps vs rs ++ τ)) H := by
            have : tmps (v :: vs) (r :: rs) ++ τ = tmp v r ++ (tmps vs rs ++ τ) := by
              show (tmp v r ++ tmps vs rs) ++ τ = _
              rw [List.append_assoc]
            rw [← this]
            exact s
          have s1 := S.data1 s0 h.1 q1
          have s2 : S K Φ σ δ1 (tmps vs rs ++ ((v, .imm d) :: τ)) H := s1.perm List.perm_middle
          obtain ⟨s3, a3, o3, z3⟩ := passW_ok s2 h.2 q2
          have eM : Mm Φ ((v, W.imm d) :: τ ++ ent σ δ2) = Mm Φ (τ ++ ent σ δ2) := by
            rw [List.cons_append]
            unfold Mm
            rw [ownA_imm]
          rw [eM] at a3
          refine ⟨s3.drop, ⟨?_, a3⟩, o3, ?_⟩
          · have := s3.g.imm (v := v) (d := d) (List.mem_append_left _ List.mem_cons_self)
            rw [eM] at this
            exact this
          · cases o with
            | none =>
              have z3 : ownAt ws' = none := z3
              show (ownAt ws').map (· + 1) = none
              rw [z3]
              rfl
            | some i =>
              obtain ⟨n, u, k, l, y1, y2, y3, y4⟩ := z3
              refine ⟨n + 1, u, k, l, ?_, by simpa using y2, y3, y4⟩
              show (ownAt ws').map (· + 1) = some (n + 1)
              rw [y1]
              rfl
  | true :: ms, v :: vs, .slot i :: rs, δ, δ2, τ, ws, o, s, h, e => by
    have e : (match passW ms rs δ with
      | some (ws, δ2, none) => match δ2[i]? with
        | some (some (.own _ l)) => some (W.own none l :: ws, δ2, some i)
        | _ => none
      | _ => none) = some (ws, δ2, o) := e
    cases q2 : passW ms rs δ with
    | none => simp only [q2] at e; cases e
    | some p =>
      obtain ⟨ws', δ', o'⟩ := p
      cases o' with
      | some j => simp only [q2] at e; cases e
      | none =>
        simp only [q2] at e
        obtain ⟨s3, a3, o3, z3⟩ := passW_ok (τ := τ) (show S K Φ σ δ (tmps vs rs ++ τ) H from s) h.2 q2
        have z3 : ownAt ws' = none := z3
        cases q3 : δ'[i]? with
        | none => simp only [q3] at e; cases e
        | some x =>
          cases x with
          | none => simp only [q3] at e; cases e
          | some w =>
            cases w with
            | imm d => simp only [q3] at e; cases e
            | own k l =>
              simp only [q3] at e
              cases e
              have hv : σ[i]? = some (some v) := h.1
              obtain ⟨u, hu, p⟩ := s3.sr.get q3
              rw [hv] at hu
              cases hu
              have hm : (v, W.own k l) ∈ τ ++ ent σ δ2 := List.mem_append_right _ (p.mem_iff.mpr List.mem_cons_self)
              obtain ⟨a, xs, ea, hx, hr⟩ := s3.g.own hm
              refine ⟨s3, ⟨⟨a, xs, ea, .inr ?_, hx, hr⟩, a3⟩, ?_, 0, v, k, l, rfl, rfl, hv, q3⟩
              · rw [ea] at hm
                exact ownA_mem.mpr ⟨k, l, hm⟩
              · show (ownAt ws').isNone = true
                rw [z3]
                rfl
  | true :: _, _ :: _, .val _ :: _, _, _, _, _, _, _, _, e => by cases e
  | [], _ :: _, [], _, _, _, _, _, _, h, _ => h.elim
  | [], _, _ :: _, _, _, _, _, _, _, _, e => by cases e
  | true :: _, _, [], _, _, _, _, _, _, _, e => by cases e
  | false :: _, _, [], _, _, _, _, _, _, _, e => by cases e
  | _ :: _, [], _ :: _, _, _, _, _, _, _, h, _ => h.elim
theorem S.after {H H' : Hp} {δ : DSt} {τ : List (V × W)} {vs : List V} {ws : List W} {o : Option Nat} {v : V} {w : W} {l' : List D} (s : S K Φ σ δ τ H) (ha : ArgsOk K H (Mm Φ (τ ++ ent σ δ)) vs ws) (h1 : oneOwn ws = true)
    (ho : match o with
      | none => ownAt ws = none
      | some i => ∃ n v k l, ownAt ws = some n ∧ vs[n]? = some v ∧ σ[i]? = some (some v) ∧ δ[i]? = some (some (.own k l)))
    (ok : okW w = true) (g' : G K ⟨H, Mm Φ (τ ++ ent σ δ), vs, ownA (vs.zip ws)⟩ ((v, w) :: outI vs ws l') H') : S K Φ σ (backW o l' δ) ((v, w) :: τ) H' := by
  cases o with
  | none =>
    have ho : ownAt ws = none := ho
    rw [ownA_zip_none ho] at g'
    unfold outI at g'
    rw [ho] at g'
    exact ⟨s.sr, s.g.after0 ok g'⟩
  | some i =>
    obtain ⟨n, u, k, l, y1, y2, y3, y4⟩ := ho
    obtain ⟨c, e1, e2, _⟩ := ownA_zip_one ha h1 y1
    rw [y2] at e1
    cases e1
    have pp : ((V.ref c, W.own k l) :: (τ ++ ent σ (δ.set i none))).Perm (τ ++ ent σ δ) := by
      obtain ⟨u, hu, p⟩ := s.sr.get y4
      rw [y3] at hu
      cases hu
      exact (List.perm_middle.symm).trans (p.symm.append_left τ)
    have g1 := s.g.perm pp
    rw [e2] at g'
    unfold outI at g'
    rw [y1] at g'
    simp only [y2] at g'
    rw [← Mm_perm pp] at g'
    have g2 := g1.after1 ok g'
    have sr := s.sr.set_none i (some (.ref c))
    have es : σ.set i (some (.ref c)) = σ := by
      obtain ⟨h1, h2⟩ := List.getElem?_eq_some_iff.mp y3
      rw [← h2, List.set_getElem_self]
    rw [es] at sr
    have s2 : S K Φ σ (δ.set i none) ((.ref c, .own k l') :: (v, w) :: τ) H' := ⟨sr, g2.perm (.swap _ _ _)⟩
    have s3 := s2.set' (i := i)
    rw [es, List.set_set] at s3
    unfold backW
    simp only [y4]
    exact s3
/-- a call's promise is asked -/
@[irreducible] def Ask (sp : DSp) (ws : List W) (q : W → List D → Prop) : Prop := sp ws q
theorem ask {sp : DSp} {ws : List W} {q : W → List D → Prop} (h : sp ws q) : Ask sp ws q := by unfold Ask; exact h
theorem Ask.un {sp : DSp} {ws : List W} {q : W → List D → Prop} (h : Ask sp ws q) : sp ws q := by unfold Ask at h; exact h
def TCall (sp : DSp) (ms : List Bool) (Ta : TDA) : TD := fun δ q => Ta δ fun rs δ1 => match passW ms rs δ1 with
  | some (ws, δ2, o) => Ask sp ws fun w l' => force (backW o l' δ2) fun δ3 => q (.val w) δ3
  | none => False
/-- a promise asks nothing more of what is wanted than it says -/
def Mono (sp : DSp) : Prop := ∀ ws (q q' : W → List D → Prop), sp ws q → (∀ w l, q w l → q' w l) → sp ws q'
theorem sim_call_ {sp : DSp} (hm : Mono sp) {ms : List Bool} {ta : TA} {Ta : TDA} {E : XK} {t : TE} (ha : SimA K Φ ta Ta) (ht : ∀ σ H Q, (ta σ H fun vs H1 => lift K sp vs H1 Q E) → t σ H Q) : SimE K Φ t (TCall sp ms Ta) := by
  refine ⟨fun τ σ δ H Q q s h k => ht σ H Q ?_⟩
  refine ha.run τ σ δ H _ _ s h fun vs rs δ1 H1 s1 e1 h1 => ?_
  cases q1 : passW ms rs δ1 with
  | none => simp only [q1] at h1
  | some p =>
    obtain ⟨ws, δ2, o⟩ := p
    simp only [q1] at h1
    obtain ⟨s2, a2, o2, z2⟩ := passW_ok s1 e1 q1
    refine ⟨ws, Mm Φ (τ ++ ent σ δ2), fun b hb => s2.g.dom' hb, a2, o2, hm _ _ _ h1.un fun w l' hq v H' ok g' => ?_⟩
    rw [force_eq] at hq
    exact k v (.val w) _ H' (s2.after a2 o2 z2 ok g') trivial hq
theorem sim_call {sp : DSp} (hm : Mono sp) (ms : List Bool) {ta : TA} {Ta : TDA} {E : XK} (ha : SimA K Φ ta Ta) : SimE K Φ (tCall (lift K sp) [] E ta) (TCall sp ms Ta) :=
  sim_call_ hm ha fun σ H Q h => by
    show ta σ H fun vs H1 => lift K sp (vs ++ []) H1 Q E
    simpa using h
end
end DL

namespace DL
open PySem L2

/-! ### operators by the kinds of their operands -/
theorem opOr {X : Cx} {f : Value → Value → Sem Value} {r r' : R2} (h : OpR X f r) (h' : OpR X f r') : OpR X f (fun x y H Q => r x y H Q ∨ r' x y H Q) := by
  intro pins s σ H x y v u Q I rx ry q
  rcases q with q | q
  · exact h pins s σ H x y v u Q I rx ry q
  · exact h' pins s σ H x y v u Q I rx ry q
abbrev rAddU : R2 := fun x y H Q => (rI0 fun i j => .int (i + j)) x y H Q ∨ rCat x y H Q
theorem op_addU {X : Cx} : OpR X (binaryOp .Add) rAddU := opOr op_add op_cat
def rdAdd (d1 d2 : D) (k : W → Prop) : Prop := match d1, d2 with
  | .int i, .int j => k (.imm (.int (i + j)))
  | .lst a, .lst b => a.length + b.length ≤ 65536 ∧ k (.own none (a ++ b))
  | _, _ => False
theorem le65536 {n : Nat} (h : n ≤ 65536) : n ≤ sizeLine := Nat.le_trans h (by rw [sizeLine_eq]; decide)
section
variable {K : PySem.W.Frag}
theorem G.int {Φ : Fm} {inv : List (V × W)} {H : Hp} {i : Int} (g : G K Φ inv H) : G K Φ ((.int i, .imm (.int i)) :: inv) H := g.push rfl
theorem G.bl {Φ : Fm} {inv : List (V × W)} {H : Hp} {i : Bool} (g : G K Φ inv H) : G K Φ ((.bl i, .imm (.bl i)) :: inv) H := g.push rfl
theorem ou_add : OpU K rAddU rdAdd := by
  intro Φ inv x y d1 d2 H Q k g h1 h2 h kk
  cases d1 with
  | int i =>
    cases d2 with
    | int j => exact .inl ⟨i, j, h1, h2, kk _ _ _ g.int h⟩
    | _ => exact h.elim
  | lst a =>
    cases d2 with
    | lst b =>
      obtain ⟨hl, h⟩ := h
      obtain ⟨p, vs, e1, q1, r1⟩ := h1
      obtain ⟨p', us, e2, q2, r2⟩ := h2
      exact .inr ⟨p, p', vs, us, e1, e2, q1, q2, by rw [r1.len, r2.len]; exact le65536 hl, fun z hz => kk _ _ _ (g.lst hz (r1.app r2)) h⟩
    | _ => exact h.elim
  | _ => exact h.elim
def rdSub (d1 d2 : D) (k : W → Prop) : Prop := match d1, d2 with
  | .int i, .int j => k (.imm (.int (i - j)))
  | _, _ => False
theorem ou_sub : OpU K (rI0 fun i j => .int (i - j)) rdSub := by
  intro Φ inv x y d1 d2 H Q k g h1 h2 h kk
  cases d1 with
  | int i =>
    cases d2 with
    | int j => exact ⟨i, j, h1, h2, kk _ _ _ g.int h⟩
    | _ => exact h.elim
  | _ => exact h.elim
abbrev rMulU : R2 := fun x y H Q => (rI CMulW fun i j => .int (i * j)) x y H Q ∨ rRep x y H Q
theorem op_mulU {X : Cx} : OpR X (binaryOp .Mult) rMulU := opOr op_mulW op_rep
def rdMul (d1 d2 : D) (k : W → Prop) : Prop := match d1, d2 with
  | .int i, .int j => CMulW i j ∧ k (.imm (.int (i * j)))
  | .lst a, .int n => (0 ≤ n ∧ n < 2 ^ 20 ∧ a.length * n.toNat ≤ 65536) ∧ k (.own none (List.replicate n.toNat a).flatten)
  | _, _ => False
theorem RpA.flat {H : Hp} {M : Addr → Prop} {a : List D} {vs : List V} (h : RpA K H M a vs) : ∀ n : Nat, RpA K H M (List.replicate n a).flatten (List.replicate n vs).flatten
  | 0 => rfl
  | n + 1 => by
    rw [List.replicate_succ, List.replicate_succ, List.flatten_cons, List.flatten_cons]
    exact h.app (RpA.flat h n)
theorem ou_mul : OpU K rMulU rdMul := by
  intro Φ inv x y d1 d2 H Q k g h1 h2 h kk
  cases d1 with
  | int i =>
    cases d2 with
    | int j => exact .inl ⟨i, j, h1, h2, h.1, kk _ _ _ g.int h.2⟩
    | _ => exact h.elim
  | lst a =>
    cases d2 with
    | int n =>
      obtain ⟨⟨n0, n1, n2⟩, h⟩ := h
      obtain ⟨p, vs, e1, q1, r1⟩ := h1
      have h63 : (2 : Int) ^ 20 ≤ 2 ^ 63 := by decide
      exact .inr ⟨p, n, vs, e1, h2, q1, by omega, by omega, by rw [r1.len]; exact le65536 n2, fun z hz => kk _ _ _ (g.lst hz (r1.flat _)) h⟩
    | _ => exact h.elim
  | _ => exact h.elim
def rdI (C : Int → Int → Prop) (f : Int → Int → Int) (d1 d2 : D) (k : W → Prop) : Prop := match d1, d2 with
  | .int i, .int j => C i j ∧ k (.imm (.int (f i j)))
  | _, _ => False
theorem ou_I {C : Int → Int → Prop} {f : Int → Int → Int} : OpU K (rI C fun i j => .int (f i j)) (rdI C f) := by
  intro Φ inv x y d1 d2 H Q k g h1 h2 h kk
  cases d1 with
  | int i =>
    cases d2 with
    | int j => exact ⟨i, j, h1, h2, h.1, kk _ _ _ g.int h.2⟩
    | _ => exact h.elim
  | _ => exact h.elim
def rdCmp (p : Int → Int → Bool) (d1 d2 : D) (k : W → Prop) : Prop := match d1, d2 with
  | .int i, .int j => k (.imm (.bl (p i j)))
  | _, _ => False
theorem ou_cmp {p : Int → Int → Bool} : OpU K (rI0 fun i j => .bl (p i j)) (rdCmp p) := by
  intro Φ inv x y d1 d2 H Q k g h1 h2 h kk
  cases d1 with
  | int i =>
    cases d2 with
    | int j => exact ⟨i, j, h1, h2, kk _ _ _ g.bl h⟩
    | _ => exact h.elim
  | _ => exact h.elim
def rdNeg (d : D) (k : W → Prop) : Prop := match d with
  | .int i => k (.imm (.int (-i)))
  | _ => False
theorem uu_neg : UnU K (rU fun i => .int (-i)) rdNeg := by
  intro Φ inv x d H Q k g h1 h kk
  cases d with
  | int i => exact ⟨i, h1, kk _ _ _ g.int h⟩
  | _ => exact h.elim

/-! ### == at any depth -/
mutual
def py : D → PyData
  | .non => .none
  | .bl b => .bool b
  | .int i => .int i
  | .str x => .str x
  | .tup l => .tuple (pys l)
  | .lst l => .list (pys l)
  | .fz l => .list (pys l)
  | .ty _ => .none
def pys : List D → List PyData
  | [] => []
  | d :: ds => py d :: pys ds
end
mutual
def pyOk : D → Bool
  | .tup l => pysOk l
  | .lst l => pysOk l
  | .fz l => pysOk l
  | .ty _ => false
  | .non => true
  | .bl _ => true
  | .int _ => true
  | .str _ => true
def pysOk : List D → Bool
  | [] => true
  | d :: ds => pyOk d && pysOk ds
end
mutual
theorem Rp.dp {H : Hp} {M : Addr → Prop} : ∀ (d : D) (v : V), pyOk d = true → Rp K H M d v → Dp K H v (py d)
  | .non, v, _, h => by rw [show v = V.non from h]; exact .non
  | .bl b, v, _, h => by rw [show v = V.bl b from h]; exact .bl b
  | .int i, v, _, h => by rw [show v = V.int i from h]; exact .int i
  | .str x, v, _, h => by rw [show v = V.str x from h]; exact .str x
  | .ty _, _, e, _ => by cases e
  | .tup l, v, e, h => by
    obtain ⟨a, vs, e1, q, r⟩ := Ro.tup (Rp.ro h)
    subst e1
    exact .tup q (RpA.dp l vs e r)
  | .lst l, v, e, h => by
    obtain ⟨a, vs, e1, q, r⟩ := Ro.list (Rp.ro h) (l := l) rfl
    subst e1
    exact .lst q (RpA.dp l vs e r)
  | .fz l, v, e, h => by
    obtain ⟨a, vs, e1, q, r⟩ := Ro.list (Rp.ro h) (l := l) rfl
    subst e1
    exact .lst q (RpA.dp l vs e r)
theorem RpA.dp {H : Hp} {M : Addr → Prop} : ∀ (ds : List D) (vs : List V), pysOk ds = true → RpA K H M ds vs → DpAll K H vs (pys ds)
  | [], vs, _, h => by rw [show vs = [] from h]; exact .nil
  | d :: ds, vs, e, h => by
    obtain ⟨v, r, e1, h1, h2⟩ := h
    subst e1
    have e : (pyOk d && pysOk ds) = true := e
    rw [Bool.and_eq_true] at e
    exact .cons (Rp.dp d v e.1 h1) (RpA.dp ds r e.2 h2)
end
theorem Ro.dp {H : Hp} {M : Addr → Prop} {d : D} {v : V} (e : pyOk d = true) (h : Ro K H M v d) : Dp K H v (py d) := Rp.dp d v e h.free
def eqOk (d1 d2 : D) : Bool := (pyOk d1 && pyOk d2) && (SeqAt.shaped (py d1) && SeqAt.shaped (py d2))
def rdEq (d1 d2 : D) (k : W → Prop) : Prop := match d1, d2 with
  | .int i, .int j => k (.imm (.bl (decide (i = j))))
  | d1, d2 => eqOk d1 d2 = true ∧ k (.imm (.bl (PyData.eqv (py d1) (py d2))))
def rdNe (d1 d2 : D) (k : W → Prop) : Prop := match d1, d2 with
  | .int i, .int j => k (.imm (.bl (!decide (i = j))))
  | d1, d2 => eqOk d1 d2 = true ∧ k (.imm (.bl (!PyData.eqv (py d1) (py d2))))
theorem shaped_int (i : Int) : SeqAt.shaped (.int i) = true := by
  show (PyData.canLay0 (.int i) && decide (PyData.depth (.int i) ≤ 64)) = true
  rfl
theorem eqOk_of {d1 d2 : D} (h : eqOk d1 d2 = true) : pyOk d1 = true ∧ pyOk d2 = true ∧ SeqAt.shaped (py d1) = true ∧ SeqAt.shaped (py d2) = true := by
  unfold eqOk at h
  simp only [Bool.and_eq_true] at h
  exact ⟨h.1.1, h.1.2, h.2.1, h.2.2⟩
theorem rdEq_or {d1 d2 : D} {k : W → Prop} (h : rdEq d1 d2 k) : eqOk d1 d2 = true ∧ k (.imm (.bl (PyData.eqv (py d1) (py d2)))) := by
  unfold rdEq at h
  split at h
  · exact ⟨rfl, by
      show k (.imm (.bl (PyData.eqv (.int _) (.int _))))
      rw [show ∀ i j : Int, PyData.eqv (.int i) (.int j) = (i == j) from fun _ _ => by unfold PyData.eqv; rfl, Bool.beq_eq_decide_eq]
      exact h⟩
  · exact h
theorem rdNe_or {d1 d2 : D} {k : W → Prop} (h : rdNe d1 d2 k) : eqOk d1 d2 = true ∧ k (.imm (.bl (!PyData.eqv (py d1) (py d2)))) := by
  unfold rdNe at h
  split at h
  · exact ⟨rfl, by
      show k (.imm (.bl (!PyData.eqv (.int _) (.int _))))
      rw [show ∀ i j : Int, PyData.eqv (.int i) (.int j) = (i == j) from fun _ _ => by unfold PyData.eqv; rfl, Bool.beq_eq_decide_eq]
      exact h⟩
  · exact h
theorem ou_eq : OpU K (rEqD K) rdEq := by
  intro Φ inv x y d1 d2 H Q k g h1 h2 h kk
  obtain ⟨e, h⟩ := rdEq_or h
  obtain ⟨e1, e2, e3, e4⟩ := eqOk_of e
  exact ⟨_, _, h1.dp e1, h2.dp e2, e3, e4, kk _ _ _ g.bl h⟩
theorem ou_ne : OpU K (rNeD K) rdNe := by
  intro Φ inv x y d1 d2 H Q k g h1 h2 h kk
  obtain ⟨e, h⟩ := rdNe_or h
  obtain ⟨e1, e2, e3, e4⟩ := eqOk_of e
  exact ⟨_, _, h1.dp e1, h2.dp e2, e3, e4, kk _ _ _ g.bl h⟩

/-! ### is, is not: None, bools -/
abbrev rIsU : R2 := fun x y H Q => (y = .non ∧ Q (.bl (decide (x = .non))) H) ∨ rIsB x y H Q
abbrev rNotU : R2 := fun x y H Q => (y = .non ∧ Q (.bl (!decide (x = .non))) H) ∨ rNotB x y H Q
theorem op_isU {X : Cx} : OpR X (compareOp .Is) rIsU := opOr op_isN op_isBl
theorem op_notU {X : Cx} : OpR X (compareOp .IsNot) rNotU := opOr op_notN op_notBl
def isNon : D → Bool
  | .non => true
  | _ => false
def rdIs (d1 d2 : D) (k : W → Prop) : Prop := match d2 with
  | .non => k (.imm (.bl (isNon d1)))
  | .bl b => match d1 with
    | .bl a => k (.imm (.bl (decide (a = b))))
    | _ => False
  | _ => False
def rdNot (d1 d2 : D) (k : W → Prop) : Prop := match d2 with
  | .non => k (.imm (.bl (!isNon d1)))
  | .bl b => match d1 with
    | .bl a => k (.imm (.bl (!decide (a = b))))
    | _ => False
  | _ => False
theorem isNon_ok {H : Hp} {M : Addr → Prop} {d : D} {v : V} (h : Ro K H M v d) : decide (v = .non) = isNon d := by
  cases d with
  | non => rw [show v = V.non from h]; rfl
  | bl b => rw [show v = V.bl b from h]; rfl
  | int b => rw [show v = V.int b from h]; rfl
  | str b => rw [show v = V.str b from h]; rfl
  | ty b => rw [show v = V.ty b.name from h]; rfl
  | tup l => obtain ⟨a, vs, e, _⟩ := h; rw [e]; rfl
  | lst l => obtain ⟨a, vs, e, _⟩ := h; rw [e]; rfl
  | fz l => obtain ⟨a, vs, e, _⟩ := h; rw [e]; rfl
theorem ou_is : OpU K rIsU rdIs := by
  intro Φ inv x y d1 d2 H Q k g h1 h2 h kk
  cases d2 with
  | non => exact .inl ⟨h2, by rw [isNon_ok h1]; exact kk _ _ _ g.bl h⟩
  | bl b =>
    cases d1 with
    | bl a => exact .inr ⟨a, b, h1, h2, kk _ _ _ g.bl h⟩
    | _ => exact h.elim
  | _ => exact h.elim
theorem ou_isnot : OpU K rNotU rdNot := by
  intro Φ inv x y d1 d2 H Q k g h1 h2 h kk
  cases d2 with
  | non => exact .inl ⟨h2, by rw [isNon_ok h1]; exact kk _ _ _ g.bl h⟩
  | bl b =>
    cases d1 with
    | bl a => exact .inr ⟨a, b, h1, h2, kk _ _ _ g.bl h⟩
    | _ => exact h.elim
  | _ => exact h.elim

/-! ### items, slices -/
def idx {α : Type} (l : List α) : Int → Option α
  | .ofNat n => l[n]?
  | .negSucc n => match Nat.ble (n + 1) l.length with
    | true => l[l.length - (n + 1)]?
    | false => none
theorem idx_atI {α : Type} {l : List α} {i : Int} {v : α} (h : idx l i = some v) : atI l i = some v := by
  cases i with
  | ofNat n => exact atI_nat h
  | negSucc n =>
    have h : (match Nat.ble (n + 1) l.length with
      | true => l[l.length - (n + 1)]?
      | false => none) = some v := h
    cases e : Nat.ble (n + 1) l.length with
    | false => rw [e] at h; cases h
    | true =>
      rw [e] at h
      have hl := Nat.le_of_ble_eq_true e
      have e1 : ixN l.length (Int.negSucc n) = some (l.length - (n + 1)) := by
        unfold ixN
        rw [if_neg (by omega), if_pos (by omega)]
        congr 1
        omega
      unfold atI
      rw [e1]
      exact h
theorem atI_map {H : Hp} {M : Addr → Prop} {l : List D} {vs : List V} {i : Int} {d : D} (r : RpA K H M l vs) (h : atI l i = some d) : ∃ v, atI vs i = some v ∧ Rp K H M d v := by
  unfold atI at h ⊢
  rw [r.len]
  cases e : ixN l.length i with
  | none => rw [e] at h; cases h
  | some j =>
    rw [e] at h
    exact r.get h
def rdIx (d1 d2 : D) (k : W → Prop) : Prop := match d2 with
  | .int i => match seqOf d1 with
    | some l => match idx l i with
      | some d => k (.imm d)
      | none => False
    | none => False
  | _ => False
theorem ou_ix : OpU K (rIx K) rdIx := by
  intro Φ inv x y d1 d2 H Q k g h1 h2 h kk
  cases d2 with
  | int i =>
    have h : (match seqOf d1 with
      | some l => match idx l i with
        | some d => k (.imm d)
        | none => False
      | none => False) := h
    cases e : seqOf d1 with
    | none => simp only [e] at h
    | some l =>
      simp only [e] at h
      cases e2 : idx l i with
      | none => simp only [e2] at h
      | some d =>
        simp only [e2] at h
        obtain ⟨a, vs, ea, q, r⟩ := h1.seq e
        obtain ⟨v, hv, rv⟩ := atI_map r (idx_atI e2)
        rcases q with q | q
        · exact .inl ⟨a, vs, i, v, ea, h2, q, hv, kk _ _ _ (g.push rv) h⟩
        · exact .inr (.inl ⟨a, vs, i, v, ea, h2, q, hv, kk _ _ _ (g.push rv) h⟩)
  | _ => exact h.elim
/-- an item at a place that is reckoned -/
def rdIxS (d1 d2 : D) (k : W → Prop) : Prop := ∃ l i d, seqOf d1 = some l ∧ d2 = .int i ∧ idx l i = some d ∧ k (.imm d)
theorem ou_ixS : OpU K (rIx K) rdIxS := by
  intro Φ inv x y d1 d2 H Q k g h1 h2 h kk
  obtain ⟨l, i, d, e, e1, e2, h⟩ := h
  subst e1
  refine ou_ix Φ inv x y d1 (.int i) H Q k g h1 h2 ?_ kk
  show (match seqOf d1 with
      | some l => match idx l i with
        | some d => k (.imm d)
        | none => False
      | none => False)
  simp only [e, e2]
  exact h
/-- the cut of a list -/
def cutD (l : List D) (lo hi : Option Int) : List D := (l.drop (HT.sIx l.length 0 lo)).take (HT.sIx l.length l.length hi - HT.sIx l.length 0 lo)
theorem cut_ok {H : Hp} {M : Addr → Prop} {l : List D} {vs : List V} (r : RpA K H M l vs) (lo hi : Option Int) : RpA K H M (cutD l lo hi) (cutV vs lo hi) := by
  unfold cutD cutV
  rw [r.len]
  exact (r.drop _).take _
variable {Φ : Fm}
abbrev TDO := DSt → (Option Int → DSt → Prop) → Prop
structure SimO (K : PySem.W.Frag) (Φ : Fm) (t : TO) (T : TDO) : Prop where
  run : ∀ (τ : List (V × W)) (σ : St) (δ : DSt) (H : Hp) (Q : Option Int → Hp → Prop) (q : Option Int → DSt → Prop), S K Φ σ δ τ H → T δ q →
    (∀ o δ' H', S K Φ σ δ' τ H' → q o δ' → Q o H') → t σ H Q
def TNoPart : TDO := fun δ q => q none δ
def TPart (Ta : TD) : TDO := fun δ q => Ta δ fun r δ1 => match look δ1 r with
  | some (.int i) => q (some i) δ1
  | _ => False
theorem sim_nopart : SimO K Φ tNoPart TNoPart := ⟨fun τ σ δ H Q q s h k => k none δ H s h⟩
theorem sim_part {t : TE} {T : TD} (ha : SimE K Φ t T) : SimO K Φ (tPart t) (TPart T) := by
  refine ⟨fun τ σ δ H Q q s h k => ?_⟩
  refine ha.run τ σ δ H _ _ s h fun v r δ1 H1 s1 e1 h1 => ?_
  cases q1 : look δ1 r with
  | none => simp only [q1] at h1
  | some d =>
    simp only [q1] at h1
    have ro := s1.look e1 (fun p hp => List.mem_append_left _ hp) q1
    cases d with
    | int i => exact ⟨i, ro, k _ δ1 H1 (s1.sub (List.sublist_append_right _ _)) h1⟩
    | _ => exact h1.elim
def TSl (Te : TD) (Tl Th : TDO) : TD := fun δ q => Te δ fun r δ1 => Tl δ1 fun lo δ2 => Th δ2 fun hi δ3 => match look δ3 r with
  | some (.lst l) => q (.val (.own none (cutD l lo hi))) δ3
  | some (.fz l) => q (.val (.own none (cutD l lo hi))) δ3
  | _ => False
theorem sim_slL {te : TE} {tl th : TO} {Te : TD} {Tl Th : TDO} (ha : SimE K Φ te Te) (hl : SimO K Φ tl Tl) (hh : SimO K Φ th Th) : SimE K Φ (tSl (rSlL K) te tl th) (TSl Te Tl Th) := by
  refine ⟨fun τ σ δ H Q q s h k => ?_⟩
  refine ha.run τ σ δ H _ _ s h fun v r δ1 H1 s1 e1 h1 => ?_
  refine hl.run _ σ δ1 H1 _ _ s1 h1 fun lo δ2 H2 s2 h2 => ?_
  refine hh.run _ σ δ2 H2 _ _ s2 h2 fun hi δ3 H3 s3 h3 => ?_
  cases q1 : look δ3 r with
  | none => simp only [q1] at h3
  | some d =>
    simp only [q1] at h3
    have ro := s3.look e1 (fun p hp => List.mem_append_left _ hp) q1
    have fin : ∀ l, listOf d = some l → q (.val (.own none (cutD l lo hi))) δ3 → rSlL K v lo hi H3 Q := fun l e hq => by
      obtain ⟨a, vs, ea, hs, r'⟩ := ro.list e
      refine ⟨a, vs, ea, hs, fun p hp => k (.ref p) (.val (.own none (cutD l lo hi))) δ3 _ ?_ trivial hq⟩
      exact (s3.lst hp (cut_ok r' lo hi)).sub (List.Sublist.cons_cons _ (List.sublist_append_right _ _))
    cases d with
    | lst l => exact fin l rfl h3
    | fz l => exact fin l rfl h3
    | _ => exact h3.elim

/-! ### built-in functions -/
def CallU (K : PySem.W.Frag) (r : List V → Hp → VK → Prop) (rd : List D → (W → Prop) → Prop) : Prop :=
  ∀ (Φ : Fm) (inv : List (V × W)) (vs : List V) (ds : List D) (H : Hp) (Q : VK) (k : W → Prop), G K Φ inv H → RoA K H (Mm Φ inv) vs ds → rd ds k →
    (∀ v w H', G K Φ ((v, w) :: inv) H' → k w → Q v H') → r vs H Q
def TCB (rd : List D → (W → Prop) → Prop) (Ta : TDA) : TD := fun δ q => Ta δ fun rs δ1 => match looks δ1 rs with
  | some ds => rd ds fun w => q (.val w) δ1
  | none => False
theorem sim_cb {r : List V → Hp → VK → Prop} {rd : List D → (W → Prop) → Prop} {ta : TA} {Ta : TDA} (hc : CallU K r rd) (ha : SimA K Φ ta Ta) : SimE K Φ (tCB r ta) (TCB rd Ta) := by
  refine ⟨fun τ σ δ H Q q s h k => ?_⟩
  refine ha.run τ σ δ H _ _ s h fun vs rs δ1 H1 s1 e1 h1 => ?_
  cases e : looks δ1 rs with
  | none => simp only [e] at h1
  | some ds =>
    simp only [e] at h1
    refine hc Φ _ vs ds H1 Q _ s1.g (s1.looks e1 (fun p hp => List.mem_append_left _ hp) e) h1 fun v w H' g hw => ?_
    exact k v (.val w) δ1 H' ⟨s1.sr, g.sub (List.Sublist.cons_cons _ (List.Sublist.append_right (List.sublist_append_right _ _) _))⟩ trivial hw
theorem RoA.one {H : Hp} {M : Addr → Prop} {vs : List V} {d : D} (h : RoA K H M vs [d]) : ∃ v, vs = [v] ∧ Ro K H M v d := by
  match vs, h with
  | [v], h => exact ⟨v, rfl, h.1⟩
  | v :: u :: r, h => exact h.2.elim
theorem RoA.two {H : Hp} {M : Addr → Prop} {vs : List V} {d e : D} (h : RoA K H M vs [d, e]) : ∃ v u, vs = [v, u] ∧ Ro K H M v d ∧ Ro K H M u e := by
  match vs, h with
  | [v, u], h => exact ⟨v, u, rfl, h.1, h.2.1⟩
  | [v], h => exact h.2.elim
  | v :: u :: x :: r, h => exact h.2.2.elim
def rdLen (ds : List D) (k : W → Prop) : Prop := match ds with
  | [d] => match seqOf d with
    | some l => k (.imm (.int l.length))
    | none => False
  | _ => False
theorem cu_len : CallU K (fun xs H Q => ∃ p ys, xs = [.ref p] ∧ (SqL K H p ys ∨ SqT K H p ys) ∧ Q (.int ys.length) H) rdLen := by
  intro Φ inv vs ds H Q k g h1 h kk
  match ds, h1, h with
  | [d], h1, h =>
    obtain ⟨v, ev, h1⟩ := h1.one
    have h : (match seqOf d with
      | some l => k (.imm (.int l.length))
      | none => False) := h
    cases e : seqOf d with
    | none => simp only [e] at h
    | some l =>
      simp only [e] at h
      obtain ⟨a, us, ea, q, r⟩ := h1.seq e
      exact ⟨a, us, by rw [ev, ea], q, by rw [r.len]; exact kk _ _ _ g.int h⟩
  | [], _, h => exact h.elim
  | _ :: _ :: _, _, h => exact h.elim
def rdAbs (ds : List D) (k : W → Prop) : Prop := match ds with
  | [.int i] => k (.imm (.int (if i < 0 then -i else i)))
  | _ => False
theorem cu_abs : CallU K (fun xs H Q => ∃ i, xs = [.int i] ∧ Q (.int (if i < 0 then -i else i)) H) rdAbs := by
  intro Φ inv vs ds H Q k g h1 h kk
  unfold rdAbs at h
  split at h
  · obtain ⟨v, ev, h1⟩ := h1.one
    exact ⟨_, by rw [ev, show v = V.int _ from h1], kk _ _ _ g.int h⟩
  · exact h.elim
def rdInt (ds : List D) (k : W → Prop) : Prop := match ds with
  | [.int i] => k (.imm (.int i))
  | [.bl b] => k (.imm (.int (if b then 1 else 0)))
  | _ => False
theorem cu_int : CallU K (fun xs H Q => (∃ i, xs = [.int i] ∧ Q (.int i) H) ∨ ∃ k, xs = [.bl k] ∧ Q (.int (if k then 1 else 0)) H) rdInt := by
  intro Φ inv vs ds H Q k g h1 h kk
  unfold rdInt at h
  split at h
  · obtain ⟨v, ev, h1⟩ := h1.one
    exact .inl ⟨_, by rw [ev, show v = V.int _ from h1], kk _ _ _ g.int h⟩
  · obtain ⟨v, ev, h1⟩ := h1.one
    exact .inr ⟨_, by rw [ev, show v = V.bl _ from h1], kk _ _ _ g.int h⟩
  · exact h.elim
def rdII (f : Int → Int → Int) (ds : List D) (k : W → Prop) : Prop := match ds with
  | [.int i, .int j] => k (.imm (.int (f i j)))
  | _ => False
theorem cu_II {f : Int → Int → Int} {r : List V → Hp → VK → Prop} (hr : ∀ i j H Q, Q (.int (f i j)) H → r [.int i, .int j] H Q) : CallU K r (rdII f) := by
  intro Φ inv vs ds H Q k g h1 h kk
  unfold rdII at h
  split at h
  · obtain ⟨v, u, ev, h1, h2⟩ := h1.two
    rw [ev, show v = V.int _ from h1, show u = V.int _ from h2]
    exact hr _ _ _ _ (kk _ _ _ g.int h)
  · exact h.elim
def maxI (i j : Int) : Int := if j > i then j else i
def minI (i j : Int) : Int := if j < i then j else i
theorem cu_max : CallU K (fun xs H Q => ∃ i j, xs = [.int i, .int j] ∧ Q (.int (if j > i then j else i)) H) (rdII maxI) := cu_II fun i j _ _ h => ⟨i, j, rfl, h⟩
theorem cu_min : CallU K (fun xs H Q => ∃ i j, xs = [.int i, .int j] ∧ Q (.int (if j < i then j else i)) H) (rdII minI) := cu_II fun i j _ _ h => ⟨i, j, rfl, h⟩
def gcdI (i j : Int) : Int := ((Nat.gcd i.natAbs j.natAbs : Nat) : Int)
theorem cu_gcd : CallU K rGcd (rdII gcdI) := cu_II fun i j _ _ h => ⟨i, j, rfl, h⟩
def intsOf : List D → Option (List Int)
  | [] => some []
  | .int i :: r => match intsOf r with
    | some l => some (i :: l)
    | none => none
  | _ => none
theorem intsOf_ok : ∀ {l : List D} {ns : List Int}, intsOf l = some ns → l = ns.map D.int
  | [], ns, h => by cases h; rfl
  | .int i :: r, ns, h => by
    have h : (match intsOf r with
      | some l => some (i :: l)
      | none => none) = some ns := h
    cases e : intsOf r with
    | none => rw [e] at h; cases h
    | some l => rw [e] at h; cases h; rw [intsOf_ok e]; rfl
  | .non :: _, _, h => by cases h
  | .bl _ :: _, _, h => by cases h
  | .str _ :: _, _, h => by cases h
  | .tup _ :: _, _, h => by cases h
  | .lst _ :: _, _, h => by cases h
  | .fz _ :: _, _, h => by cases h
  | .ty _ :: _, _, h => by cases h
theorem intsOf_map : ∀ ns : List Int, intsOf (ns.map D.int) = some ns
  | [] => rfl
  | n :: ns => by
    show (match intsOf (ns.map D.int) with
      | some l => some (n :: l)
      | none => none) = some (n :: ns)
    rw [intsOf_map ns]
def rdSum (ds : List D) (k : W → Prop) : Prop := match ds with
  | [d] => ∃ (l : List D) (ns : List Int), listOf d = some l ∧ l = ns.map D.int ∧ k (.imm (.int ns.sum))
  | _ => False
theorem cu_sum : CallU K (rSum K) rdSum := by
  intro Φ inv vs ds H Q k g h1 h kk
  match ds, h1, h with
  | [d], h1, h =>
    obtain ⟨v, ev, h1⟩ := h1.one
    obtain ⟨l, ns, e, e2, h⟩ := h
    obtain ⟨a, us, ea, q, r⟩ := h1.list e
    rw [e2] at r
    rw [RpA.ints r] at q
    exact ⟨a, ns, by rw [ev, ea], q, kk _ _ _ g.int h⟩
  | [], _, h => exact h.elim
  | _ :: _ :: _, _, h => exact h.elim
def rdList (ds : List D) (k : W → Prop) : Prop := match ds with
  | [d] => match seqOf d with
    | some l => k (.own none l)
    | none => False
  | _ => False
theorem cu_list : CallU K (fun xs H Q => ∃ p ys, xs = [.ref p] ∧ (SqL K H p ys ∨ SqT K H p ys) ∧ ∀ l, H l = none → Q (.ref l) (upd H l (.lst ys))) rdList := by
  intro Φ inv vs ds H Q k g h1 h kk
  match ds, h1, h with
  | [d], h1, h =>
    obtain ⟨v, ev, h1⟩ := h1.one
    have h : (match seqOf d with
      | some l => k (.own none l)
      | none => False) := h
    cases e : seqOf d with
    | none => simp only [e] at h
    | some l =>
      simp only [e] at h
      obtain ⟨a, us, ea, q, r⟩ := h1.seq e
      exact ⟨a, us, by rw [ev, ea], q, fun p hp => kk _ _ _ (g.lst hp r) h⟩
  | [], _, h => exact h.elim
  | _ :: _ :: _, _, h => exact h.elim
def rdTuple (ds : List D) (k : W → Prop) : Prop := match ds with
  | [.lst l] => k (.imm (.tup l))
  | [.tup l] => k (.imm (.tup l))
  | _ => False
theorem cu_tuple : CallU K (fun xs H Q => ∃ p ys, xs = [.ref p] ∧ ((SqL K H p ys ∧ ∀ l, H l = none → Q (.ref l) (upd H l (.tup ys))) ∨ (SqT K H p ys ∧ Q (.ref p) H))) rdTuple := by
  intro Φ inv vs ds H Q k g h1 h kk
  unfold rdTuple at h
  split at h
  · obtain ⟨v, ev, h1⟩ := h1.one
    obtain ⟨a, us, ea, q, r⟩ := h1.list rfl
    exact ⟨a, us, by rw [ev, ea], .inl ⟨q, fun p hp => kk _ _ _ (g.tup hp r) h⟩⟩
  · obtain ⟨v, ev, h1⟩ := h1.one
    have h1' := h1
    obtain ⟨a, us, ea, q, r⟩ := h1.tup
    exact ⟨a, us, by rw [ev, ea], .inr ⟨q, by rw [← ea]; exact kk _ _ _ (g.push h1') h⟩⟩
  · exact h.elim

/-! ### isinstance -/
inductive Kd where
  | non | bl | int | str | tup | lst | ty
  deriving DecidableEq
def kd : D → Kd
  | .non => .non
  | .bl _ => .bl
  | .int _ => .int
  | .str _ => .str
  | .tup _ => .tup
  | .lst _ => .lst
  | .fz _ => .lst
  | .ty _ => .ty
def tyK : Kd → Ty → Bool
  | .bl, .bool => true
  | .bl, .int => true
  | .int, .int => true
  | .str, .str => true
  | .tup, .tuple => true
  | .lst, .list => true
  | _, _ => false
def tyOf (d : D) (t : Ty) : Bool := tyK (kd d) t
def strK : Kd → String
  | .non => "NoneType"
  | .bl => "bool"
  | .int => "int"
  | .str => "str"
  | .tup => "tuple"
  | .lst => "list"
  | .ty => "type"
def tyStr (d : D) : String := strK (kd d)
def notTy : D → Bool
  | .ty _ => false
  | _ => true
theorem Ro.tyx {H : Hp} {M : Addr → Prop} {d : D} {v : V} (h : Ro K H M v d) (n : notTy d = true) : TyX K H v (.type (tyStr d)) := by
  cases d with
  | non => rw [show v = V.non from h]; exact .base .non
  | bl b => rw [show v = V.bl b from h]; exact .base (.bl b)
  | int b => rw [show v = V.int b from h]; exact .base (.int b)
  | str b => rw [show v = V.str b from h]; exact .base (.str b)
  | ty _ => cases n
  | tup l =>
    obtain ⟨a, vs, e, q, _⟩ := h
    rw [e]
    rcases q with ⟨q | ⟨o, q⟩, _⟩ | ⟨o, _, _, q, c, _⟩
    · exact .base (.tup q)
    · exact .fTuple q
    · exact .kTuple q c
  | lst l =>
    obtain ⟨a, vs, e, q, _⟩ := h
    rw [e]
    exact .base (.lst q)
  | fz l =>
    obtain ⟨a, vs, e, q, _⟩ := h
    rw [e]
    rcases q with ⟨q | ⟨o, q⟩, _⟩ | ⟨o, _, _, q, c, _⟩
    · exact .base (.lst q)
    · exact .base (.frz q)
    · exact .kList q c
theorem tyK_ok (c : Kd) (t : Ty) (n : c ≠ .ty) : kitB (strK c) t.name = some (tyK c t) := by
  cases c <;> cases t <;> first | exact absurd rfl n | decide +kernel
theorem tyOf_ok (d : D) (t : Ty) (n : notTy d = true) : kitB (tyStr d) t.name = some (tyOf d t) := tyK_ok _ _ fun e => by
  cases d <;> first | cases e; done | cases n
def tysOf : List D → Option (List Ty)
  | [] => some []
  | .ty t :: r => match tysOf r with
    | some l => some (t :: l)
    | none => none
  | _ => none
def rdIsi (ds : List D) (k : W → Prop) : Prop := match ds with
  | [d, .ty t] => notTy d = true ∧ k (.imm (.bl (tyOf d t)))
  | _ => False
theorem cu_isi : CallU K (rIsi K) rdIsi := by
  intro Φ inv vs ds H Q k g h1 h kk
  unfold rdIsi at h
  split at h
  · obtain ⟨v, u, ev, h1, h2⟩ := h1.two
    obtain ⟨n, h⟩ := h
    exact ⟨v, u, _, _, _, by rw [ev], by rw [show u = V.ty _ from h2]; exact .ty _, h1.tyx n, kit_ty (tyOf_ok _ _ n), kk _ (.imm (.bl _)) _ g.bl h⟩
  · exact h.elim
end
end DL

namespace DL
open PySem L2

/-! ### calls with keywords -/
def pick {α : Type} (is : List Nat) (l : List α) : List α := is.filterMap fun i => l[i]?
theorem pick_vals {vs : List V} {us : List Value} (r : Vals vs us) : ∀ is : List Nat, Vals (pick is vs) (pick is us)
  | [] => .nil
  | i :: is => by
    unfold pick
    rw [List.filterMap_cons, List.filterMap_cons]
    cases e : vs[i]? with
    | none => rw [r.none_of e]; exact pick_vals r is
    | some v =>
      obtain ⟨u, e2, q⟩ := r.get e
      rw [e2]
      exact .cons q (pick_vals r is)
theorem pick_rp {K : PySem.W.Frag} {H : Hp} {M : Addr → Prop} {ds : List D} {vs : List V} (r : RpA K H M ds vs) : ∀ is : List Nat, RpA K H M (pick is ds) (pick is vs)
  | [] => rfl
  | i :: is => by
    unfold pick
    rw [List.filterMap_cons, List.filterMap_cons]
    cases e : ds[i]? with
    | none =>
      have : vs[i]? = none := List.getElem?_eq_none_iff.mpr (by rw [r.len]; exact List.getElem?_eq_none_iff.mp e)
      rw [this]
      exact pick_rp r is
    | some d =>
      obtain ⟨v, e2, q⟩ := r.get e
      rw [e2]
      exact ⟨v, _, rfl, q, pick_rp r is⟩
/-- how a call with n positional values and the keywords ks binds, where no parameter has a default: is: for each parameter the place of its value among both -/
theorem kbn {K : PySem.W.Frag} {x qual : Str} {st : Stmt} {f : Addr} {fd : FuncData} {ps ks : List Str} {n : Nat} (is : List Nat) (F : Fun K x qual st f fd)
    (h : ∀ (kV doc pm : Value) (an : Option Addr) (cdv ct : Value) (us ws : List Value), us.length = n → ws.length = ks.length → bindArgs (PySem.W.fnOf x qual (defArgs st) (defBody st) (defScope st) .none kV doc pm an cdv ct) ⟨us, ks.zip ws⟩ = pure (ps.zip (pick is (us ++ ws)))) :
    KBn K fd ps n ks (fun us ws => pick is (us ++ ws)) (fun vs zs => pick is (vs ++ zs)) := by
  obtain ⟨oc, od, kV, doc, pm, an, cdv, ct, osl, rfl, lk, hcd⟩ := F.ex
  exact ⟨fun s us ws X l1 l2 => .of_eq (h kV doc pm an cdv ct us ws l1 l2), fun r1 r2 => pick_vals (r1.append r2) is⟩
section
variable {X : Cx} {CX : CXT} {k : Nat} {f : Addr} {fd : FuncData} {ps ks : List Str} {sp : Sp} {E : XK} {x : Str} {p pos : Pos} {kws : List Keyword} {tk : TA} {g : List Value → List Value → List Value} {gV : List V → List V → List V}
theorem pe_callN0 (F : FnOk X.prog X.w X.K X.mg X.base CX k f fd ps sp) (hr : Room k X.A) (hg : Gl X x) (hm : X.mg x = some (.ref f)) (hk : PySem.W.keepIn X.K (.ref f) = true) (hb : KBn X.K fd ps 0 ks g gV) (hx : Passes CX X E)
    (hkw : PK X kws tk) (hall : (backToKw pos (keywordEach kws X.env)).all (·.1.isSome) = true := by rfl) (hks : (backToKw pos (keywordEach kws X.env)).filterMap (·.1) = ks := by rfl)
    (hdb : (x == ("__debug__" : Str)) = false := by decide) (hpl : ((backTo pos (starEach [] X.env)).any (·.1) || (backToKw pos (keywordEach kws X.env)).any (·.1.isNone)) = false := by rfl) :
    PE X (.Call (.Name x p) [] kws pos) (tCallN 0 ks.length sp gV E tNil tk) := by
  refine ⟨fun pins s σ H Q I h => ?_⟩
  refine wpAny_Call_Name_kw (ld_glob I hg hm ?_ hdb)
  refine PySem.W.callWith_KW0 (h₀ := X.base) I.ok.mod.kin hk hall ?_ hpl
  refine thn (hkw.run pos pins s σ H _ I h) fun ws s2 ⟨zs, H2, I2, rz, l1, l2, q2⟩ => ⟨I2.kIn, ?_⟩
  rw [hks]
  exact run_fnN (us := []) (vs := []) F hr hb hx I2 .nil rz rfl l2 q2
end
section
variable {K : PySem.W.Frag} {Φ : Fm}
theorem RSs.len {σ : St} : ∀ {vs : List V} {rs : List R}, RSs σ vs rs → vs.length = rs.length
  | [], [], _ => rfl
  | _ :: _, _ :: _, h => by simp [RSs.len h.2]
  | [], _ :: _, h => h.elim
  | _ :: _, [], h => h.elim
theorem RSs.app {σ : St} : ∀ {vs us : List V} {rs ss : List R}, RSs σ vs rs → RSs σ us ss → RSs σ (vs ++ us) (rs ++ ss)
  | [], _, [], _, _, g => g
  | _ :: _, _, _ :: _, _, h, g => ⟨h.1, RSs.app h.2 g⟩
  | [], _, _ :: _, _, h, _ => h.elim
  | _ :: _, _, [], _, h, _ => h.elim
theorem tmps_app : ∀ {vs us : List V} {rs ss : List R}, vs.length = rs.length → tmps (vs ++ us) (rs ++ ss) = tmps vs rs ++ tmps us ss
  | [], _, [], _, _ => rfl
  | v :: vs, us, r :: rs, ss, h => by
    show tmp v r ++ tmps (vs ++ us) (rs ++ ss) = (tmp v r ++ tmps vs rs) ++ tmps us ss
    rw [tmps_app (by simpa using h), List.append_assoc]
  | [], _, _ :: _, _, h => by simp at h
  | _ :: _, _, [], _, h => by simp at h
theorem args_imm {H : Hp} {B : Addr → Prop} : ∀ {ds : List D} {vs : List V}, RpA K H B ds vs → ArgsOk K H B vs (ds.map W.imm)
  | [], vs, h => by rw [show vs = [] from h]; trivial
  | d :: ds, vs, h => by
    obtain ⟨v, r, e, h1, h2⟩ := h
    rw [e]
    exact ⟨h1, args_imm h2⟩
theorem own_imm : ∀ ds : List D, ownAt (ds.map W.imm) = none ∧ oneOwn (ds.map W.imm) = true
  | [] => ⟨rfl, rfl⟩
  | d :: ds => by
    obtain ⟨h1, h2⟩ := own_imm ds
    refine ⟨?_, h2⟩
    show (ownAt (ds.map W.imm)).map (· + 1) = none
    rw [h1]
    rfl
def TCallN (n m : Nat) (is : List Nat) (sp : DSp) (Ta Tk : TDA) : TD := fun δ q => Ta δ fun rs1 δ1 => Tk δ1 fun rs2 δ2 => match Nat.beq rs1.length n, Nat.beq rs2.length m with
  | true, true => match datas δ2 (rs1 ++ rs2) with
    | some (ds, δ3) => Ask sp ((pick is ds).map W.imm) fun w _ => force δ3 fun δ4 => q (.val w) δ4
    | none => False
  | _, _ => False
theorem sim_callN {sp : DSp} (hm : Mono sp) {n m : Nat} {is : List Nat} {E : XK} {ta tk : TA} {Ta Tk : TDA} (ha : SimA K Φ ta Ta) (hk : SimA K Φ tk Tk) :
    SimE K Φ (tCallN n m (lift K sp) (fun vs zs => pick is (vs ++ zs)) E ta tk) (TCallN n m is sp Ta Tk) := by
  refine ⟨fun τ σ δ H Q q s h k => ?_⟩
  refine ha.run τ σ δ H _ _ s h fun vs1 rs1 δ1 H1 s1 e1 h1 => ?_
  refine hk.run _ σ δ1 H1 _ _ s1 h1 fun vs2 rs2 δ2 H2 s2 e2 h2 => ?_
  cases b1 : Nat.beq rs1.length n with
  | false => simp only [b1] at h2
  | true =>
    cases b2 : Nat.beq rs2.length m with
    | false => simp only [b1, b2] at h2
    | true =>
      simp only [b1, b2] at h2
      cases q1 : datas δ2 (rs1 ++ rs2) with
      | none => simp only [q1] at h2
      | some p =>
        obtain ⟨ds, δ3⟩ := p
        simp only [q1] at h2
        have s3 : S K Φ σ δ2 (tmps (vs1 ++ vs2) (rs1 ++ rs2) ++ τ) H2 := by
          refine s2.perm ?_
          rw [tmps_app e1.len, ← List.append_assoc]
          exact List.perm_append_comm.append_right _
        obtain ⟨s4, r4⟩ := s3.datas (e1.app e2) q1
        refine ⟨by rw [e1.len]; exact Nat.eq_of_beq_eq_true b1, by rw [e2.len]; exact Nat.eq_of_beq_eq_true b2, ?_⟩
        obtain ⟨o1, o2⟩ := own_imm (pick is ds)
        refine ⟨(pick is ds).map W.imm, Mm Φ (τ ++ ent σ δ3), fun b hb => s4.g.dom' hb, args_imm (pick_rp r4 is), o2, hm _ _ _ h2.un fun w l' hq v H' ok g' => ?_⟩
        rw [force_eq] at hq
        exact k v (.val w) _ H' (s4.after (o := none) (args_imm (pick_rp r4 is)) o2 o1 ok g') trivial hq

/-! ### lists that a slot owns, by their methods -/
def ownGet (δ : DSt) (i : Nat) : Option (Option Nat × List D) := match δ[i]? with
  | some (some (.own k l)) => some (k, l)
  | _ => none
theorem ownGet_ok {δ : DSt} {i : Nat} {k : Option Nat} {l : List D} (h : ownGet δ i = some (k, l)) : δ[i]? = some (some (.own k l)) := by
  unfold ownGet at h
  split at h
  · cases h; assumption
  · cases h
theorem S.ownAt {σ : St} {δ : DSt} {τ : List (V × W)} {H : Hp} {i : Nat} {k : Option Nat} {l : List D} (s : S K Φ σ δ τ H) (h : δ[i]? = some (some (.own k l))) :
    ∃ a vs, σ[i]? = some (some (.ref a)) ∧ H a = some (.lst vs) ∧ RpA K H (Mm Φ (τ ++ ent σ δ)) l vs := by
  obtain ⟨v, hv, p⟩ := s.sr.get h
  obtain ⟨a, vs, e, q, r⟩ := s.g.own (v := v) (k := k) (l := l) (List.mem_append_right _ (p.mem_iff.mpr List.mem_cons_self))
  exact ⟨a, vs, by rw [hv, e], q, r⟩
def TAppend (i : Nat) (Ta : TDA) : TD := fun δ q => match ownGet δ i with
  | some _ => Ta δ fun rs δ1 => match datas δ1 rs with
    | some ([d], δ2) => match ownGet δ2 i with
      | some (k, l) => l.length < 65536 ∧ force (δ2.set i (some (.own k (l ++ [d])))) fun δ3 => q (.val (.imm .non)) δ3
      | none => False
    | _ => False
  | none => False
theorem lt65536 {n : Nat} (h : n < 65536) : n < sizeLine := Nat.lt_of_lt_of_le h (by rw [sizeLine_eq]; decide)
theorem sim_append {i : Nat} {ta : TA} {Ta : TDA} (ha : SimA K Φ ta Ta) : SimE K Φ (tBM K "list" rAppend (tVar i) ta) (TAppend i Ta) := by
  refine ⟨fun τ σ δ H Q q s h k => ?_⟩
  unfold TAppend at h
  cases q0 : ownGet δ i with
  | none => simp only [q0] at h
  | some p =>
    obtain ⟨k0, l0⟩ := p
    simp only [q0] at h
    obtain ⟨a, vs0, hv, ha0, r0⟩ := s.ownAt (ownGet_ok q0)
    refine ⟨.ref a, hv, .inl ⟨rfl, vs0, SqL.of ha0⟩, ?_⟩
    refine ha.run τ σ δ H _ _ s h fun us rs δ1 H1 s1 e1 h1 => ?_
    cases q1 : datas δ1 rs with
    | none => simp only [q1] at h1
    | some p =>
      obtain ⟨ds, δ2⟩ := p
      match ds, q1, h1 with
      | [d], q1, h1 =>
        simp only [q1] at h1
        cases q2 : ownGet δ2 i with
        | none => simp only [q2] at h1
        | some p =>
          obtain ⟨k1, l1⟩ := p
          simp only [q2] at h1
          obtain ⟨hl, h1⟩ := h1
          obtain ⟨s2, u, r', eu, hu, er⟩ := s1.datas e1 q1
          cases er
          obtain ⟨a', vs1, hv', ha1, r1⟩ := s2.ownAt (ownGet_ok q2)
          rw [hv] at hv'
          cases hv'
          refine ⟨a, vs1, u, rfl, eu, ha1, by rw [r1.len]; exact lt65536 hl, ?_⟩
          exact k .non (.val (.imm .non)) _ _ ((s2.write (ownGet_ok q2) hv (r1.app (.one hu))).push rfl) trivial (by rw [force_eq] at h1; exact h1)
      | [], q1, h1 => simp only [q1] at h1
      | _ :: _ :: _, q1, h1 => simp only [q1] at h1
def TPopAt (i : Nat) (Ta : TDA) : TD := fun δ q => match ownGet δ i with
  | some _ => Ta δ fun rs δ1 => match looks δ1 rs with
    | some [.int j] => match ownGet δ1 i with
      | some (k, l) => l.length ≤ 65536 ∧ ∃ n d, ixN l.length j = some n ∧ l[n]? = some d ∧ force (δ1.set i (some (.own k (l.eraseIdx n)))) fun δ3 => q (.val (.imm d)) δ3
      | none => False
    | _ => False
  | none => False
theorem sim_popAt {i : Nat} {ta : TA} {Ta : TDA} (ha : SimA K Φ ta Ta) : SimE K Φ (tBM K "list" rPopAt (tVar i) ta) (TPopAt i Ta) := by
  refine ⟨fun τ σ δ H Q q s h k => ?_⟩
  unfold TPopAt at h
  cases q0 : ownGet δ i with
  | none => simp only [q0] at h
  | some p =>
    obtain ⟨k0, l0⟩ := p
    simp only [q0] at h
    obtain ⟨a, vs0, hv, ha0, r0⟩ := s.ownAt (ownGet_ok q0)
    refine ⟨.ref a, hv, .inl ⟨rfl, vs0, SqL.of ha0⟩, ?_⟩
    refine ha.run τ σ δ H _ _ s h fun us rs δ1 H1 s1 e1 h1 => ?_
    cases q1 : looks δ1 rs with
    | none => simp only [q1] at h1
    | some ds =>
      match ds, q1, h1 with
      | [.int j], q1, h1 =>
        simp only [q1] at h1
        cases q2 : ownGet δ1 i with
        | none => simp only [q2] at h1
        | some p =>
          obtain ⟨k1, l1⟩ := p
          simp only [q2] at h1
          obtain ⟨hl, n, d, en, ed, h1⟩ := h1
          obtain ⟨u, eu, ru⟩ := (s1.looks e1 (fun p hp => List.mem_append_left _ hp) q1).one
          obtain ⟨a', vs1, hv', ha1, r1⟩ := s1.ownAt (ownGet_ok q2)
          rw [hv] at hv'
          cases hv'
          obtain ⟨y, ey, ry⟩ := r1.get ed
          have en' : ixN vs1.length j = some n := by rw [r1.len]; exact en
          obtain ⟨z1, z2, z3, z4⟩ := ixN_seq en'
          have hl' : vs1.length ≤ 65536 := by rw [r1.len]; exact hl
          refine ⟨a, vs1, j, n, y, rfl, by rw [eu, show u = V.int j from ru], ha1, by omega, by omega, z1, ey, ?_⟩
          have s2 := s1.push ry
          have hv2 := (s2.write (l' := l1.eraseIdx n) (vs' := vs1.eraseIdx n) (ownGet_ok q2) hv (by
            have e : Mm Φ (((y, W.imm d) :: (tmps us rs ++ τ)) ++ ent σ δ1) = Mm Φ ((tmps us rs ++ τ) ++ ent σ δ1) := by
              rw [List.cons_append]; unfold Mm; rw [ownA_imm]
            rw [e]
            exact r1.erase n))
          exact k y (.val (.imm d)) _ _ (hv2.sub (List.Sublist.cons_cons _ (List.sublist_append_right _ _))) trivial (by rw [force_eq] at h1; exact h1)
      | [], q1, h1 => simp only [q1] at h1
      | .non :: _, q1, h1 => simp only [q1] at h1
      | .bl _ :: _, q1, h1 => simp only [q1] at h1
      | .str _ :: _, q1, h1 => simp only [q1] at h1
      | .tup _ :: _, q1, h1 => simp only [q1] at h1
      | .lst _ :: _, q1, h1 => simp only [q1] at h1
      | .fz _ :: _, q1, h1 => simp only [q1] at h1
      | .ty _ :: _, q1, h1 => simp only [q1] at h1
      | .int _ :: _ :: _, q1, h1 => simp only [q1] at h1
/-- x[i] = e -/
def TSetIx (i : Nat) (Te Ti : TD) : TDS := fun Δ δ => Te δ fun r δ1 => match datas δ1 [r] with
  | some (d :: _, δ2) => match ownGet δ2 i with
    | some _ => Ti δ2 fun rj δ3 => match look δ3 rj with
      | some (.int j) => match ownGet δ3 i with
        | some (k, l) => match ixN l.length j with
          | some n => force (δ3.set i (some (.own k (l.set n d)))) Δ.nx
          | none => False
        | none => False
      | _ => False
    | none => False
  | _ => False
theorem sim_setIx {i : Nat} {te ti : TE} {Te Ti : TD} (he : SimE K Φ te Te) (hi : SimE K Φ ti Ti) : SimS K Φ (tAsg te (gSub (tVar i) ti rSetL)) (TSetIx i Te Ti) := by
  refine ⟨fun τ σ δ H D Δ s h a _ _ _ => ?_⟩
  refine he.run τ σ δ H _ _ s h fun v r δ1 H1 s1 e1 h1 => ?_
  cases q1 : datas δ1 [r] with
  | none => simp only [q1] at h1
  | some p =>
    obtain ⟨ds, δ2⟩ := p
    cases ds with
    | nil => simp only [q1] at h1
    | cons d ds =>
      simp only [q1] at h1
      have := datas_one q1
      subst this
      have s2 := s1.data1 e1 q1
      cases q2 : ownGet δ2 i with
      | none => simp only [q2] at h1
      | some p =>
        obtain ⟨k0, l0⟩ := p
        simp only [q2] at h1
        obtain ⟨b, vs0, hv, ha0, r0⟩ := s2.ownAt (ownGet_ok q2)
        refine ⟨.ref b, hv, ?_⟩
        refine hi.run _ σ δ2 H1 _ _ s2 h1 fun vj rj δ3 H3 s3 e3 h3 => ?_
        cases q3 : look δ3 rj with
        | none => simp only [q3] at h3
        | some dj =>
          have ro := s3.look e3 (fun p hp => List.mem_append_left _ hp) q3
          cases dj with
          | int j =>
            simp only [q3] at h3
            cases q4 : ownGet δ3 i with
            | none => simp only [q4] at h3
            | some p =>
              obtain ⟨k1, l1⟩ := p
              simp only [q4] at h3
              cases q5 : ixN l1.length j with
              | none => simp only [q5] at h3
              | some n =>
                simp only [q5] at h3
                obtain ⟨b', vs1, hv', ha1, r1⟩ := s3.ownAt (ownGet_ok q4)
                rw [hv] at hv'
                cases hv'
                have hd := s3.g.imm (v := v) (d := d) (List.mem_append_left _ (List.mem_append_right _ List.mem_cons_self))
                refine ⟨b, vs1, j, n, rfl, ro, ha1, by rw [r1.len]; exact q5, ?_⟩
                exact a _ _ _ ((s3.write (ownGet_ok q4) hv (r1.set hd n)).sub ((List.sublist_cons_self _ _).trans (List.sublist_append_right _ _))) (by rw [force_eq] at h3; exact h3)
          | _ => simp only [q3] at h3

/-! ### a, b = e1, e2 -/
/-- one value for a slot: own (true) or as data -/
def prep (m : Bool) (r : R) (δ : DSt) : Option (W × DSt) := match m with
  | false => match datas δ [r] with
    | some (d :: _, δ1) => some (.imm d, δ1)
    | _ => none
  | true => match r with
    | .val (.own none l) => some (.own none l, δ)
    | _ => none
theorem S.prep {σ : St} {δ δ' : DSt} {τ : List (V × W)} {H : Hp} {m : Bool} {v : V} {r : R} {w : W} (s : S K Φ σ δ (tmp v r ++ τ) H) (h : RS σ v r) (e : DL.prep m r δ = some (w, δ')) : S K Φ σ δ' ((v, w) :: τ) H := by
  unfold DL.prep at e
  cases m with
  | false =>
    cases q : DL.datas δ [r] with
    | none => simp only [q] at e; cases e
    | some p =>
      obtain ⟨ds, δ1⟩ := p
      cases ds with
      | nil => simp only [q] at e; cases e
      | cons d ds =>
        simp only [q] at e
        cases e
        have := datas_one q
        subst this
        exact s.data1 h q
  | true =>
    simp only at e
    split at e
    · cases e; exact s
    · cases e
def TPar (i j : Nat) (m1 m2 : Bool) (Ta : TDA) : TDS := fun Δ δ => Ta δ fun rs δ1 => match rs with
  | [r1, r2] => match prep m1 r1 δ1 with
    | some (w1, δ2) => match prep m2 r2 δ2 with
      | some (w2, δ3) => force ((δ3.set i (some w1)).set j (some w2)) Δ.nx
      | none => False
    | none => False
  | _ => False
theorem sim_par {i j : Nat} (m1 m2 : Bool) {ta : TA} {Ta : TDA} (ha : SimA K Φ ta Ta) (hij : i ≠ j) : SimS K Φ (tPar i j ta) (TPar i j m1 m2 Ta) := by
  refine ⟨fun τ σ δ H D Δ s h a _ _ _ => ?_⟩
  refine ha.run τ σ δ H _ _ s h fun vs rs δ1 H1 s1 e1 h1 => ?_
  match vs, rs, e1, h1, s1 with
  | [v1, v2], [r1, r2], e1, h1, s1 =>
    have h1 : (match prep m1 r1 δ1 with
      | some (w1, δ2) => match prep m2 r2 δ2 with
        | some (w2, δ3) => force ((δ3.set i (some w1)).set j (some w2)) Δ.nx
        | none => False
      | none => False) := h1
    refine ⟨v1, v2, rfl, ?_⟩
    cases q1 : prep m1 r1 δ1 with
    | none => simp only [q1] at h1
    | some p =>
      obtain ⟨w1, δ2⟩ := p
      simp only [q1] at h1
      cases q2 : prep m2 r2 δ2 with
      | none => simp only [q2] at h1
      | some p =>
        obtain ⟨w2, δ3⟩ := p
        simp only [q2] at h1
        have sa : S K Φ σ δ1 (tmp v1 r1 ++ (tmp v2 r2 ++ τ)) H1 := by
          have : tmps [v1, v2] [r1, r2] ++ τ = tmp v1 r1 ++ (tmp v2 r2 ++ τ) := by
            show (tmp v1 r1 ++ (tmp v2 r2 ++ [])) ++ τ = _
            rw [List.append_nil, List.append_assoc]
          rw [← this]
          exact s1
        have sb := sa.prep e1.1 q1
        have sc : S K Φ σ δ2 (tmp v2 r2 ++ ((v1, w1) :: τ)) H1 := sb.perm List.perm_middle
        have sd := (sc.prep e1.2.1 q2).perm (List.Perm.swap _ _ _)
        exact a _ _ _ (S.set' (S.set' (i := i) sd) (i := j)) (by rw [force_eq] at h1; exact h1)
  | [], [], _, h1, _ => exact h1.elim
  | [_], [_], _, h1, _ => exact h1.elim
  | _ :: _ :: _ :: _, _ :: _ :: _ :: _, _, h1, _ => exact h1.elim
  | [], _ :: _, e, _, _ => exact e.elim
  | _ :: _, [], e, _, _ => exact e.elim
  | [_], _ :: _ :: _, e, _, _ => exact e.2.elim
  | _ :: _ :: _, [_], e, _, _ => exact e.2.elim
  | [_, _], _ :: _ :: _ :: _, e, _, _ => exact e.2.2.elim
  | _ :: _ :: _ :: _, [_, _], e, _, _ => exact e.2.2.elim
def TPar3 (i j l : Nat) (m1 m2 m3 : Bool) (Ta : TDA) : TDS := fun Δ δ => Ta δ fun rs δ1 => match rs with
  | [r1, r2, r3] => match prep m1 r1 δ1 with
    | some (w1, δ2) => match prep m2 r2 δ2 with
      | some (w2, δ3) => match prep m3 r3 δ3 with
        | some (w3, δ4) => force (((δ4.set i (some w1)).set j (some w2)).set l (some w3)) Δ.nx
        | none => False
      | none => False
    | none => False
  | _ => False
theorem sim_par3 {i j l : Nat} (m1 m2 m3 : Bool) {ta : TA} {Ta : TDA} (ha : SimA K Φ ta Ta) : SimS K Φ (tPar3 i j l ta) (TPar3 i j l m1 m2 m3 Ta) := by
  refine ⟨fun τ σ δ H D Δ s h a _ _ _ => ?_⟩
  refine ha.run τ σ δ H _ _ s h fun vs rs δ1 H1 s1 e1 h1 => ?_
  have hl := e1.len
  match rs, vs, e1, h1, s1, hl with
  | [r1, r2, r3], [v1, v2, v3], e1, h1, s1, _ =>
    have h1 : (match prep m1 r1 δ1 with
      | some (w1, δ2) => match prep m2 r2 δ2 with
        | some (w2, δ3) => match prep m3 r3 δ3 with
          | some (w3, δ4) => force (((δ4.set i (some w1)).set j (some w2)).set l (some w3)) Δ.nx
          | none => False
        | none => False
      | none => False) := h1
    refine ⟨v1, v2, v3, rfl, ?_⟩
    cases q1 : prep m1 r1 δ1 with
    | none => simp only [q1] at h1
    | some p =>
      obtain ⟨w1, δ2⟩ := p
      simp only [q1] at h1
      cases q2 : prep m2 r2 δ2 with
      | none => simp only [q2] at h1
      | some p =>
        obtain ⟨w2, δ3⟩ := p
        simp only [q2] at h1
        cases q3 : prep m3 r3 δ3 with
        | none => simp only [q3] at h1
        | some p =>
          obtain ⟨w3, δ4⟩ := p
          simp only [q3] at h1
          have sa : S K Φ σ δ1 (tmp v1 r1 ++ (tmp v2 r2 ++ (tmp v3 r3 ++ τ))) H1 := by
            have : tmps [v1, v2, v3] [r1, r2, r3] ++ τ = tmp v1 r1 ++ (tmp v2 r2 ++ (tmp v3 r3 ++ τ)) := by
              show (tmp v1 r1 ++ (tmp v2 r2 ++ (tmp v3 r3 ++ []))) ++ τ = _
              rw [List.append_nil, List.append_assoc, List.append_assoc]
            rw [← this]
            exact s1
          have sb := sa.prep e1.1 q1
          have sc : S K Φ σ δ2 (tmp v2 r2 ++ ((v1, w1) :: (tmp v3 r3 ++ τ))) H1 := sb.perm List.perm_middle
          have sd := sc.prep e1.2.1 q2
          have se : S K Φ σ δ3 (tmp v3 r3 ++ ((v2, w2) :: (v1, w1) :: τ)) H1 := sd.perm (List.perm_middle.trans (List.Perm.cons _ List.perm_middle))
          have sf := se.prep e1.2.2.1 q3
          have sg : S K Φ σ δ4 ((v1, w1) :: (v2, w2) :: (v3, w3) :: τ) H1 := sf.perm ((List.Perm.swap _ _ _).trans (((List.Perm.swap _ _ _).cons _).trans (List.Perm.swap _ _ _)))
          exact a _ _ _ (S.set' (S.set' (S.set' (i := i) sg) (i := j)) (i := l)) (by rw [force_eq] at h1; exact h1)
  | [], [], _, h1, _, _ => exact h1.elim
  | [_], [_], _, h1, _, _ => exact h1.elim
  | [_, _], [_, _], _, h1, _, _ => exact h1.elim
  | _ :: _ :: _ :: _ :: _, _, _, h1, _, _ => exact h1.elim
  | [], _ :: _, _, _, _, hl => simp at hl
  | [_], [], _, _, _, hl => simp at hl
  | [_], _ :: _ :: _, _, _, _, hl => simp at hl
  | [_, _], [], _, _, _, hl => simp at hl
  | [_, _], [_], _, _, _, hl => simp at hl
  | [_, _], _ :: _ :: _ :: _, _, _, _, hl => simp at hl
  | [_, _, _], [], _, _, _, hl => simp at hl
  | [_, _, _], [_], _, _, _, hl => simp at hl
  | [_, _, _], [_, _], _, _, _, hl => simp at hl
  | [_, _, _], _ :: _ :: _ :: _ :: _, _, _, _, hl => simp at hl
end
end DL

namespace DL
open PySem L2 PySem.Spec PyProof.Rows

/-! ### what a loop walks -/
section
variable {X : Cx} {tg : Expr}
def iSeq (K : PySem.W.Frag) (tl : TE) : TI := fun σ H R => tl σ H fun x H1 => ∃ a, x = .ref a ∧ (((∃ xs, SqL K H1 a xs) ∧ R (Itl K a) H1) ∨ ((∃ xs, SqT K H1 a xs) ∧ R (Itt K a) H1))
theorem pi_seq {l : Expr} {tl : TE} (hl : PE X l tl) : PI X tg l (iSeq X.K tl) := by
  refine ⟨fun pins s σ H R I h => ?_⟩
  refine thn (hl.run pins s σ H _ I h) fun v s1 ⟨x, H1, I1, r1, q1⟩ => ?_
  obtain ⟨a, e, q1⟩ := q1
  subst e
  rcases q1 with ⟨⟨xs, hq⟩, q⟩ | ⟨⟨xs, hq⟩, q⟩
  · cases r1
    obtain ⟨its, rv, p, hz⟩ := I1.list hq
    refine wpAny_pyIter_list p.isList ?_
    refine ⟨s1.heap.objs.size, [s1.heap.objs.size], _, _, H1, rfl, I1.kept (t' := s1.toks) fun b o e => Heap.get?_push_of_some _ e, turn_list a _, ⟨_, Heap.get?_push_size _ rfl, rfl, rfl⟩, fun b hb => ?_, q⟩
    have e : b = s1.heap.objs.size := by simpa using hb
    subst e
    exact I1.fpOk (Nat.le_refl _) (I1.hok.fresh (Nat.le_refl _))
  · cases r1
    obtain ⟨its, rv, p, hz⟩ := I1.tuple hq
    refine wpAny_pyIter_tuple (show s1.heap.IsTuple a its.toArray from p) ?_
    refine ⟨s1.heap.objs.size, [s1.heap.objs.size], _, _, H1, rfl, I1.kept (t' := s1.toks) fun b o e => Heap.get?_push_of_some _ e, turn_tuple a _, ⟨_, Heap.get?_push_size _ rfl, rfl, rfl⟩, fun b hb => ?_, q⟩
    have e : b = s1.heap.objs.size := by simpa using hb
    subst e
    exact I1.fpOk (Nat.le_refl _) (I1.hok.fresh (Nat.le_refl _))
end
section
variable {K : PySem.W.Frag} {Φ : Fm}
/-- over a list or a tuple, as data -/
def ISeq (Te : TD) : TDI := fun δ q => Te δ fun r δ1 => match datas δ1 [r] with
  | some (d :: _, δ2) => match seqOf d with
    | some l => q l δ2
    | none => False
  | _ => False
theorem sim_iseq {te : TE} {Te : TD} (he : SimE K Φ te Te) : SimI K Φ (iSeq K te) (ISeq Te) := by
  refine ⟨fun τ σ δ H Rr q s h k => ?_⟩
  refine he.run τ σ δ H _ _ s h fun v r δ1 H1 s1 e1 h1 => ?_
  cases q1 : datas δ1 [r] with
  | none => simp only [q1] at h1
  | some p =>
    obtain ⟨ds, δ2⟩ := p
    cases ds with
    | nil => simp only [q1] at h1
    | cons d ds =>
      simp only [q1] at h1
      have := datas_one q1
      subst this
      cases q2 : seqOf d with
      | none => simp only [q2] at h1
      | some l =>
        simp only [q2] at h1
        have s2 := s1.data1 e1 q1
        have hd := s2.g.imm (v := v) (d := d) List.mem_cons_self
        obtain ⟨a, vs, ea, hq, hr⟩ := (Rp.ro hd).seq q2
        subst ea
        -- what stands there in any later state
        have later : ∀ σ' δ' τ' H', S K Φ σ' δ' ([(V.ref a, W.imm d)] ++ τ') H' → ∃ vs', (SqL K H' a vs' ∨ SqT K H' a vs') ∧ RpA K H' (Mm Φ (([(V.ref a, W.imm d)] ++ τ') ++ ent σ' δ')) l vs' := fun σ' δ' τ' H' s' => by
          obtain ⟨a', vs', ea, hq', hr'⟩ := (Rp.ro (s'.g.imm (v := V.ref a) (d := d) (List.mem_append_left _ (List.mem_append_left _ List.mem_cons_self)))).seq q2
          cases ea
          exact ⟨vs', hq', hr'⟩
        have pushI : ∀ {σ' : L2.St} {δ' : DSt} {τ' : List (V × W)} {H' : Hp} {vs' : List V} {i : Nat} {x : V}, S K Φ σ' δ' ([(V.ref a, W.imm d)] ++ τ') H' → RpA K H' (Mm Φ (([(V.ref a, W.imm d)] ++ τ') ++ ent σ' δ')) l vs' → vs'[i]? = some x →
            ∃ d', l[i]? = some d' ∧ S K Φ σ' δ' ((x, .imm d') :: ([(V.ref a, W.imm d)] ++ τ')) H' := fun s' r' e' => by
          obtain ⟨d', h1, h2⟩ := r'.get' e'
          exact ⟨d', h1, s'.push h2⟩
        refine ⟨a, rfl, ?_⟩
        -- of which of both kinds it is, is told by the data
        cases d with
        | tup l' =>
          cases q2
          refine .inr ⟨?_, k (Itt K a) [(V.ref a, W.imm (.tup l))] l δ2 H1 s2 ⟨fun σ' δ' τ' H' i s' hi => ?_, fun σ' δ' τ' H' i x H2 s' hi y => ?_, fun σ' δ' τ' H' i s' hi => ?_⟩ h1⟩
          · obtain ⟨a', vs', ea, hq', _⟩ := Ro.tup (Rp.ro hd); cases ea; exact ⟨vs', hq'⟩
          · obtain ⟨a', vs', ea, hq', hr'⟩ := Ro.tup (Rp.ro (s'.g.imm (v := V.ref a) (d := .tup l) (List.mem_append_left _ (List.mem_append_left _ List.mem_cons_self))))
            cases ea
            exact ⟨vs', vs'[i]'(by rw [hr'.len]; exact hi), hq', by simp [hr'.len, hi]⟩
          · obtain ⟨a', vs', ea, hq', hr'⟩ := Ro.tup (Rp.ro (s'.g.imm (v := V.ref a) (d := .tup l) (List.mem_append_left _ (List.mem_append_left _ List.mem_cons_self))))
            cases ea
            obtain ⟨e, y⟩ := y
            subst e
            exact pushI s' hr' (y vs' hq')
          · obtain ⟨a', vs', ea, hq', hr'⟩ := Ro.tup (Rp.ro (s'.g.imm (v := V.ref a) (d := .tup l) (List.mem_append_left _ (List.mem_append_left _ List.mem_cons_self))))
            cases ea
            exact ⟨vs', hq', by rw [hr'.len]; exact hi⟩
        | lst l' =>
          cases q2
          refine .inl ⟨?_, k (Itl K a) [(V.ref a, W.imm (.lst l))] l δ2 H1 s2 ⟨fun σ' δ' τ' H' i s' hi => ?_, fun σ' δ' τ' H' i x H2 s' hi y => ?_, fun σ' δ' τ' H' i s' hi => ?_⟩ h1⟩
          · obtain ⟨a', vs', ea, hq', _⟩ := Ro.list (Rp.ro hd) (l := l) rfl; cases ea; exact ⟨vs', hq'⟩
          · obtain ⟨a', vs', ea, hq', hr'⟩ := Ro.list (Rp.ro (s'.g.imm (v := V.ref a) (d := .lst l) (List.mem_append_left _ (List.mem_append_left _ List.mem_cons_self)))) (l := l) rfl
            cases ea
            exact ⟨vs', vs'[i]'(by rw [hr'.len]; exact hi), hq', by simp [hr'.len, hi]⟩
          · obtain ⟨a', vs', ea, hq', hr'⟩ := Ro.list (Rp.ro (s'.g.imm (v := V.ref a) (d := .lst l) (List.mem_append_left _ (List.mem_append_left _ List.mem_cons_self)))) (l := l) rfl
            cases ea
            obtain ⟨e, y⟩ := y
            subst e
            exact pushI s' hr' (y vs' hq')
          · obtain ⟨a', vs', ea, hq', hr'⟩ := Ro.list (Rp.ro (s'.g.imm (v := V.ref a) (d := .lst l) (List.mem_append_left _ (List.mem_append_left _ List.mem_cons_self)))) (l := l) rfl
            cases ea
            exact ⟨vs', hq', by rw [hr'.len]; exact hi⟩
        | fz l' =>
          cases q2
          refine .inl ⟨?_, k (Itl K a) [(V.ref a, W.imm (.fz l))] l δ2 H1 s2 ⟨fun σ' δ' τ' H' i s' hi => ?_, fun σ' δ' τ' H' i x H2 s' hi y => ?_, fun σ' δ' τ' H' i s' hi => ?_⟩ h1⟩
          · obtain ⟨a', vs', ea, hq', _⟩ := Ro.list (Rp.ro hd) (l := l) rfl; cases ea; exact ⟨vs', hq'⟩
          · obtain ⟨a', vs', ea, hq', hr'⟩ := Ro.list (Rp.ro (s'.g.imm (v := V.ref a) (d := .fz l) (List.mem_append_left _ (List.mem_append_left _ List.mem_cons_self)))) (l := l) rfl
            cases ea
            exact ⟨vs', vs'[i]'(by rw [hr'.len]; exact hi), hq', by simp [hr'.len, hi]⟩
          · obtain ⟨a', vs', ea, hq', hr'⟩ := Ro.list (Rp.ro (s'.g.imm (v := V.ref a) (d := .fz l) (List.mem_append_left _ (List.mem_append_left _ List.mem_cons_self)))) (l := l) rfl
            cases ea
            obtain ⟨e, y⟩ := y
            subst e
            exact pushI s' hr' (y vs' hq')
          · obtain ⟨a', vs', ea, hq', hr'⟩ := Ro.list (Rp.ro (s'.g.imm (v := V.ref a) (d := .fz l) (List.mem_append_left _ (List.mem_append_left _ List.mem_cons_self)))) (l := l) rfl
            cases ea
            exact ⟨vs', hq', by rw [hr'.len]; exact hi⟩
        | _ => cases q2
/-- range -/
def rngD (lo : Int) (n : Nat) : List D := (List.range n).map fun (i : Nat) => D.int (lo + (i : Int))
theorem rngD_len (lo : Int) (n : Nat) : (rngD lo n).length = n := by simp [rngD]
theorem rngD_get {lo : Int} {n i : Nat} (h : i < n) : (rngD lo n)[i]? = some (.int (lo + (i : Int))) := by simp [rngD, h]
theorem rngD_get' {lo : Int} {n i : Nat} {d : D} (h : (rngD lo n)[i]? = some d) : i < n ∧ d = .int (lo + (i : Int)) := by
  have hi : i < n := by
    have := (List.getElem?_eq_some_iff.mp h).1
    rwa [rngD_len] at this
  rw [rngD_get hi] at h
  cases h
  exact ⟨hi, rfl⟩
theorem rng_ok (lo : Int) (n : Nat) : IterOk K Φ (Itr lo n) [] (rngD lo n) :=
  ⟨fun _ _ _ _ i _ hi => by rw [rngD_len] at hi; exact hi, fun σ δ τ H i x H' s hi y => by
    rw [rngD_len] at hi
    obtain ⟨e, ex⟩ := y
    subst e ex
    exact ⟨_, rngD_get hi, s.push rfl⟩, fun _ _ _ _ i _ hi => by rw [rngD_len] at hi; exact hi⟩
def IRng1 (Ta : TDA) : TDI := fun δ q => Ta δ fun rs δ1 => match looks δ1 rs with
  | some [.int j] => (-(2 ^ 62) ≤ j ∧ j < 2 ^ 62) ∧ q (rngD 0 j.toNat) δ1
  | _ => False
def IRng2 (Ta : TDA) : TDI := fun δ q => Ta δ fun rs δ1 => match looks δ1 rs with
  | some [.int i, .int j] => (-(2 ^ 62) ≤ i ∧ i < 2 ^ 62 ∧ -(2 ^ 62) ≤ j ∧ j < 2 ^ 62) ∧ q (rngD i (j - i).toNat) δ1
  | _ => False
theorem sim_rng1 {ta : TA} {Ta : TDA} (ha : SimA K Φ ta Ta) : SimI K Φ (iRng1 ta) (IRng1 Ta) := by
  refine ⟨fun τ σ δ H Rr q s h k => ?_⟩
  refine ha.run τ σ δ H _ _ s h fun vs rs δ1 H1 s1 e1 h1 => ?_
  cases q1 : looks δ1 rs with
  | none => simp only [q1] at h1
  | some ds =>
    simp only [q1] at h1
    split at h1
    · rename_i _ j e
      cases e
      obtain ⟨v, ev, h2⟩ := (s1.looks e1 (fun p hp => List.mem_append_left _ hp) q1).one
      exact ⟨j, by rw [ev, show v = V.int j from h2], h1.1.1, h1.1.2, k _ [] _ δ1 H1 (s1.sub (List.sublist_append_right _ _)) (rng_ok 0 j.toNat) h1.2⟩
    · exact h1.elim
theorem sim_rng2 {ta : TA} {Ta : TDA} (ha : SimA K Φ ta Ta) : SimI K Φ (iRng2 ta) (IRng2 Ta) := by
  refine ⟨fun τ σ δ H Rr q s h k => ?_⟩
  refine ha.run τ σ δ H _ _ s h fun vs rs δ1 H1 s1 e1 h1 => ?_
  cases q1 : looks δ1 rs with
  | none => simp only [q1] at h1
  | some ds =>
    simp only [q1] at h1
    split at h1
    · rename_i _ i j e
      cases e
      obtain ⟨v, u, ev, h2, h3⟩ := (s1.looks e1 (fun p hp => List.mem_append_left _ hp) q1).two
      exact ⟨i, j, by rw [ev, show v = V.int i from h2, show u = V.int j from h3], h1.1, k _ [] _ δ1 H1 (s1.sub (List.sublist_append_right _ _)) (rng_ok i (j - i).toNat) h1.2⟩
    · exact h1.elim

/-! ### list comprehensions -/
def dwipe (δ : DSt) : List Nat → DSt
  | [] => δ
  | v :: vs => (dwipe δ vs).set v none
theorem dwipe_set {δ : DSt} {i : Nat} : ∀ vs : List Nat, (dwipe δ vs).set i none = dwipe (δ.set i none) vs
  | [] => rfl
  | v :: vs => by
    unfold dwipe
    rw [← dwipe_set vs]
    by_cases e : v = i
    · rw [e]
    · rw [List.set_comm _ _ e]
theorem ent_wipe {σ : L2.St} : ∀ (vs : List Nat) (δ : DSt), ent (wipe σ vs) (dwipe δ vs) = ent σ (dwipe δ vs)
  | [], _ => rfl
  | v :: vs, δ => by
    unfold wipe dwipe
    rw [ent_set_none, dwipe_set vs]
    exact ent_wipe vs _
theorem SR_same {σ σ' : L2.St} {δ : DSt} {i : Nat} {o : Option V} (h : SR (σ.set i o) (δ.set i none)) : SR σ (δ.set i none) := by
  have := h.set_none i (σ[i]?.getD none)
  rw [List.set_set, List.set_set] at this
  by_cases hi : i < σ.length
  · have e : σ.set i (σ[i]?.getD none) = σ := by
      rw [List.getElem?_eq_getElem hi]
      exact List.set_getElem_self hi
    rwa [e] at this
  · rwa [List.set_eq_of_length_le (by omega)] at this
theorem SR_wipe {σ : L2.St} : ∀ (vs : List Nat) (δ : DSt), SR (wipe σ vs) (dwipe δ vs) ↔ SR σ (dwipe δ vs)
  | [], _ => Iff.rfl
  | v :: vs, δ => by
    unfold wipe dwipe
    constructor
    · intro h
      have h := SR_same (σ' := σ) h
      rw [dwipe_set vs] at h ⊢
      exact (SR_wipe vs _).mp h
    · intro h
      have h1 : SR (wipe σ vs) (dwipe (δ.set v none) vs) := (SR_wipe vs _).mpr (by rw [← dwipe_set vs]; exact h)
      rw [← dwipe_set vs] at h1
      have := h1.set_none v none
      rw [List.set_set] at this
      exact this
theorem S.none {σ : L2.St} {δ : DSt} {τ : List (V × W)} {H : Hp} (s : S K Φ σ δ τ H) (i : Nat) : S K Φ σ (δ.set i Option.none) τ H := by
  have h := s.sr.set_none i (σ[i]?.getD Option.none)
  have e : σ.set i (σ[i]?.getD Option.none) = σ := by
    by_cases hi : i < σ.length
    · rw [List.getElem?_eq_getElem hi]
      exact List.set_getElem_self hi
    · exact List.set_eq_of_length_le (by omega)
  rw [e] at h
  refine ⟨h, s.g.sub (List.Sublist.append_left ?_ _)⟩
  have : ∀ (σ : L2.St) (δ : DSt) (i : Nat), (ent σ (δ.set i Option.none)).Sublist (ent σ δ) := by
    intro σ
    induction σ with
    | nil => intro δ i; cases δ <;> exact .refl _
    | cons u σ ih =>
      intro δ i
      cases δ with
      | nil => exact .refl _
      | cons w' δ =>
        cases i with
        | zero =>
          show (ent (u :: σ) (Option.none :: δ)).Sublist _
          have x1 : ent (u :: σ) (Option.none :: δ) = ent σ δ := by cases u <;> rfl
          rw [x1]
          cases u <;> cases w' <;> simp [ent]
        | succ i =>
          show (ent (u :: σ) (w' :: δ.set i Option.none)).Sublist _
          have := ih δ i
          cases u <;> cases w' <;> simp [ent, this]
  exact this σ δ i
theorem S.dwipe {σ : L2.St} {τ : List (V × W)} {H : Hp} : ∀ (vs : List Nat) {δ : DSt}, S K Φ σ δ τ H → S K Φ σ (DL.dwipe δ vs) τ H
  | [], _, s => s
  | v :: vs, _, s => (S.dwipe vs s).none v
theorem S.wipe {σ : L2.St} {δ : DSt} {τ : List (V × W)} {H : Hp} {vs : List Nat} (s : S K Φ σ (DL.dwipe δ vs) τ H) : S K Φ (L2.wipe σ vs) (DL.dwipe δ vs) τ H :=
  ⟨(SR_wipe vs δ).mpr s.sr, by rw [ent_wipe]; exact s.g⟩
theorem S.unwipe {σ σ2 : L2.St} {δ : DSt} {τ : List (V × W)} {H : Hp} {vs : List Nat} (s : S K Φ σ2 δ τ H) (e : L2.wipe σ2 vs = L2.wipe σ vs) : S K Φ σ (DL.dwipe δ vs) τ H := by
  have h := (s.dwipe vs).wipe
  rw [e] at h
  exact ⟨(SR_wipe vs δ).mp h.sr, by have := h.g; rw [ent_wipe] at this; exact this⟩
def TLc (Ti : TDI) (Tg : TDG) (Tt : TDT) (Te : TD) (vs : List Nat) : TD := fun δ q => Ti δ fun ds δ1 => ds.length ≤ 65536 ∧ ∃ I : Nat → List D → DSt → Prop, I 0 [] (dwipe δ1 vs) ∧
  (∀ j d acc δ2, ds[j]? = some d → acc.length ≤ j → I j acc (dwipe δ2 vs) → Tg d (dwipe δ2 vs) fun δ3 => Tt δ3 fun b δ4 => br b (Te δ4 fun r δ5 => match datas δ5 [r] with
    | some (e :: _, δ6) => I (j + 1) (acc ++ [e]) (dwipe δ6 vs)
    | _ => False) (I (j + 1) acc (dwipe δ4 vs))) ∧ ∀ acc δ2, I ds.length acc (dwipe δ2 vs) → q (.val (.own none acc)) (dwipe δ2 vs)
theorem sim_lc {wi : TI} {g : TG} {tt : TT} {te : TE} {vs : List Nat} {Ti : TDI} {Tg : TDG} {Tt : TDT} {Te : TD} {is : List Nat} (hi : SimI K Φ wi Ti) (hg : SimG K Φ g Tg is) (ht : SimT K Φ tt Tt) (he : SimE K Φ te Te)
    (hv : ∀ i ∈ is, i ∈ vs := by decide) : SimE K Φ (tLc wi g tt te vs) (TLc Ti Tg Tt Te vs) := by
  refine ⟨fun τ σ δ H Q q s h k => ?_⟩
  refine hi.run τ σ δ H _ _ s h fun J τ' ds δ1 H1 s1 it h1 D0 hD => ?_
  obtain ⟨hlen, I, h0, hs, hend⟩ := h1
  have s2 : S K Φ σ (dwipe δ1 vs) ((V.ref D0, .own none []) :: (τ' ++ τ)) (upd H1 D0 (.lst [])) := (s1.lst (ds := []) (vs := []) hD rfl).dwipe vs
  refine ⟨fun i m H => m = ds.length - i ∧ i ≤ ds.length ∧ ∃ δ acc, acc.length ≤ i ∧ I i acc (dwipe δ vs) ∧ S K Φ σ (dwipe δ vs) ((V.ref D0, .own none acc) :: (τ' ++ τ)) H, ⟨ds.length, by simp, Nat.zero_le _, δ1, [], Nat.le_refl _, h0, s2⟩, ?_⟩
  rintro i m H2 ⟨rfl, hi2, δ2, acc, hacc, hI, s3⟩
  have s3' : S K Φ σ (dwipe δ2 vs) (τ' ++ ((V.ref D0, W.own none acc) :: τ)) H2 := s3.perm List.perm_middle
  by_cases hlt : i < ds.length
  · refine .inr ⟨it.go _ _ _ H2 i s3' hlt, fun H' => ∃ δ acc, acc.length ≤ i + 1 ∧ I (i + 1) acc (dwipe δ vs) ∧ S K Φ σ (dwipe δ vs) ((V.ref D0, .own none acc) :: (τ' ++ τ)) H', fun H' p' => ⟨ds.length - (i + 1), by omega, rfl, hlt, p'⟩, fun x H' y => ?_⟩
    obtain ⟨d, hd, s4⟩ := it.yld _ _ _ H2 i x H' s3' hlt y
    have s5 : S K Φ (wipe σ vs) (dwipe δ2 vs) ((x, .imm d) :: (τ' ++ ((V.ref D0, W.own none acc) :: τ))) H' := s4.wipe
    refine hg.run _ _ _ H' x d _ _ s5 (hs i d acc δ2 hd hacc hI) fun σ3 δ3 H3 s6 hw h6 => ?_
    have hw3 : wipe σ3 vs = wipe σ vs := by
      rw [hw vs hv]
      have : ∀ us : List Nat, (∀ u ∈ us, u ∈ vs) → wipe (wipe σ us) vs = wipe σ vs := by
        intro us
        induction us with
        | nil => intro _; rfl
        | cons u us ih =>
          intro hu
          show wipe ((wipe σ us).set u none) vs = _
          rw [wipe_set (hu u List.mem_cons_self)]
          exact ih fun z hz => hu z (List.mem_cons_of_mem _ hz)
      exact this vs fun _ h => h
    refine ⟨hw3, ?_⟩
    refine ht.run _ σ3 δ3 H3 _ _ s6 h6 fun b δ4 H4 s7 h7 => ?_
    cases b with
    | false =>
      rw [if_neg Bool.false_ne_true]
      have h7 : I (i + 1) acc (dwipe δ4 vs) := h7
      exact ⟨δ4, acc, by omega, h7, (s7.unwipe hw3).perm List.perm_middle.symm⟩
    | true =>
      rw [if_pos rfl]
      refine he.run _ σ3 δ4 H4 _ _ s7 h7 fun y r δ5 H5 s8 e8 h8 => ?_
      cases q1 : datas δ5 [r] with
      | none => simp only [q1] at h8
      | some p =>
        obtain ⟨es, δ6⟩ := p
        cases es with
        | nil => simp only [q1] at h8
        | cons e es =>
          simp only [q1] at h8
          have := datas_one q1
          subst this
          have s9 := (s8.data1 e8 q1).unwipe hw3
          have s10 : S K Φ σ (dwipe δ6 vs) ((V.ref D0, .own none acc) :: (y, .imm e) :: (τ' ++ τ)) H5 :=
            s9.perm ((List.Perm.swap _ _ _).trans (List.Perm.cons _ List.perm_middle.symm))
          obtain ⟨a, us, ea, ha, ra⟩ := s10.g.own (v := V.ref D0) (k := none) (l := acc) List.mem_cons_self
          cases ea
          have hy := s10.g.imm (v := y) (d := e) (List.mem_cons_of_mem _ List.mem_cons_self)
          refine ⟨us, ha, by rw [ra.len]; exact lt65536 (by omega), δ6, acc ++ [e], by rw [List.length_append, List.length_singleton]; omega, h8, ?_⟩
          have g2 := s10.g.write (l' := acc ++ [e]) (vs' := us ++ [y]) (ra.app (.one hy))
          exact ⟨s10.sr, g2.sub (List.Sublist.cons_cons _ (List.sublist_cons_self _ _))⟩
  · have e : i = ds.length := by omega
    subst e
    refine .inl ⟨it.stop _ _ _ H2 _ s3' (Nat.le_refl _), ?_⟩
    exact k (.ref D0) (.val (.own none acc)) _ H2 (s3.sub (List.Sublist.cons_cons _ (List.sublist_append_right _ _))) trivial (hend acc δ2 hI)
def TYes : TDT := fun δ q => q true δ
theorem sim_yes : SimT K Φ tYes TYes := ⟨fun τ σ δ H Q q s h k => k true δ H s h⟩
end
end DL

namespace DL
open PySem L2 PySem.Spec PyProof.Rows

/-- // by a number of less than 9000 bits, of either sign -/
def CDivX (_ j : Int) : Prop := j ≠ 0 ∧ j.natAbs.log2 < 9000
theorem op_fdivX {X : Cx} : OpR X (binaryOp .FloorDiv) (rI CDivX fun i j => .int (i.fdiv j)) := opI fun i j _ _ _ _ _ hc q => floordiv_int hc.1 q (.inl (PyProof.noPylong_of_log2 hc.2))

section
variable {X : Cx} {pos : Pos}
def gAny (K : PySem.W.Frag) (n : Nat) (t : TGs) : TG := fun v σ H Q => ∃ a xs, v = .ref a ∧ (SqL K H a xs ∨ SqT K H a xs) ∧ xs.length = n ∧ t xs σ H Q
theorem pg_any {es : List Expr} {k : Nat} {t : TGs} {n : Nat} (hc : X.calm = true) (h : PGs X es t)
    (hn : (assignEach es X.env).length = n := by rfl) (hst : (assignEach es X.env).findIdx? (·.1) = none := by rfl) : PG X (.Tuple es k pos) (gAny X.K n t) := by
  refine ⟨fun pins s σ H v u Q I r hw => ?_⟩
  obtain ⟨a, xs, e1, hq, hl, hw⟩ := hw
  rcases hq with hq | hq
  · exact (pg_unl hc h hn hst).run pins s σ H v u Q I r ⟨a, xs, e1, hq, hl, hw⟩
  · exact (pg_tup hc h hn hst).run pins s σ H v u Q I r ⟨a, xs, e1, hq, hl, hw⟩
end
section
variable {K : PySem.W.Frag} {Φ : Fm}
/-- a, b, c = a tuple or a list -/
def GAny (n : Nat) (U : List D → DSt → (DSt → Prop) → Prop) : TDG := fun d δ q => match seqOf d with
  | some l => match Nat.beq l.length n with
    | true => U l δ q
    | false => False
  | none => False
theorem sim_gany {n : Nat} {u : TGs} {U : List D → DSt → (DSt → Prop) → Prop} {is : List Nat} (hu : SimGs K Φ u U is) : SimG K Φ (gAny K n u) (GAny n U) is := by
  refine ⟨fun τ σ δ H v d Q q s h k => ?_⟩
  unfold GAny at h
  cases e : seqOf d with
  | none => simp only [e] at h
  | some l =>
    simp only [e] at h
    obtain ⟨a, vs, ea, hq, r⟩ := (Rp.ro (s.g.imm (v := v) (d := d) List.mem_cons_self)).seq e
    cases hn : Nat.beq l.length n with
    | false => simp only [hn] at h
    | true =>
      simp only [hn] at h
      refine ⟨a, vs, ea, hq, by rw [r.len]; exact Nat.eq_of_beq_eq_true hn, ?_⟩
      refine hu.run τ σ δ H vs l Q q s.drop ?_ h k
      rw [List.cons_append] at r
      unfold Mm at r ⊢
      rw [ownA_imm] at r
      exact r
end

/-! ### promises -/
/-- α: what the arguments tell; ρ: what the answer tells -/
def specR {α ρ : Type} (enc : α → List W) (pre : α → Prop) (post : α → ρ → Prop) (res : α → ρ → W) (out : α → ρ → List D) : DSp := fun ws q => ∃ a, ws = enc a ∧ pre a ∧ ∀ r, post a r → q (res a r) (out a r)
def specF {α : Type} (enc : α → List W) (pre : α → Prop) (f : α → W) : DSp := fun ws q => ∃ a, ws = enc a ∧ pre a ∧ q (f a) []
theorem mono_R {α ρ : Type} {enc : α → List W} {pre : α → Prop} {post : α → ρ → Prop} {res : α → ρ → W} {out : α → ρ → List D} : Mono (specR enc pre post res out) :=
  fun ws q q' ⟨a, e, p, h⟩ hq => ⟨a, e, p, fun r hr => hq _ _ (h r hr)⟩
theorem mono_F {α : Type} {enc : α → List W} {pre : α → Prop} {f : α → W} : Mono (specF enc pre f) := fun ws q q' ⟨a, e, p, h⟩ hq => ⟨a, e, p, hq _ _ h⟩
theorem len_R {α ρ : Type} {enc : α → List W} {pre : α → Prop} {post : α → ρ → Prop} {res : α → ρ → W} {out : α → ρ → List D} {n : Nat} (h : ∀ a, (enc a).length = n) : ∀ ws q, specR enc pre post res out ws q → ws.length = n :=
  fun ws q ⟨a, e, _, _⟩ => by rw [e]; exact h a
theorem len_F {α : Type} {enc : α → List W} {pre : α → Prop} {f : α → W} {n : Nat} (h : ∀ a, (enc a).length = n) : ∀ ws q, specF enc pre f ws q → ws.length = n :=
  fun ws q ⟨a, e, _, _⟩ => by rw [e]; exact h a

/-! ### ways -/
theorem brI {b : Bool} {A B : Prop} (h1 : b = true → A) (h2 : b = false → B) : br b A B := by
  cases b with
  | true => exact h1 rfl
  | false => exact h2 rfl
theorem brD {p : Prop} [Decidable p] {A B : Prop} (h1 : p → A) (h2 : ¬ p → B) : br (decide p) A B := brI (fun h => h1 (of_decide_eq_true h)) fun h => h2 (of_decide_eq_false h)
theorem brN {p : Prop} [Decidable p] {A B : Prop} (h1 : ¬ p → A) (h2 : p → B) : br (!decide p) A B := brI (fun h => h1 fun z => by rw [decide_eq_true z] at h; cases h) fun h => h2 (by
  cases q : decide p with
  | true => exact of_decide_eq_true q
  | false => rw [q] at h; cases h)
theorem brT {A B : Prop} (h : A) : br true A B := h
theorem brF {A B : Prop} (h : B) : br false A B := h
theorem br_t {b : Bool} {A B : Prop} (e : b = true) (h : A) : br b A B := by rw [e]; exact h
theorem br_f {b : Bool} {A B : Prop} (e : b = false) (h : B) : br b A B := by rw [e]; exact h

/-! ### sizes of ints -/
def Sm (n : Nat) (i : Int) : Prop := i.natAbs < 2 ^ n
theorem Sm.of {n : Nat} {i : Int} (h : decide (i.natAbs < 2 ^ n) = true) : Sm n i := by have := of_decide_eq_true h; exact this
theorem Sm.nn {n : Nat} {i j : Int} (h0 : 0 ≤ i) (h1 : i < j) (e : decide (j.natAbs ≤ 2 ^ n) = true) : Sm n i := by
  have := of_decide_eq_true e
  show i.natAbs < 2 ^ n
  omega
theorem Sm.mono {n m : Nat} {i : Int} (h : Sm n i) (e : n ≤ m) : Sm m i := Nat.lt_of_lt_of_le h (Nat.pow_le_pow_right (by decide) e)
theorem Sm.mul {n m : Nat} {i j : Int} (h : Sm n i) (g : Sm m j) : Sm (n + m) (i * j) := wide_lt h g
theorem Sm.add {n : Nat} {i j : Int} (h : Sm n i) (g : Sm n j) : Sm (n + 1) (i + j) := by
  unfold Sm at *
  have : (i + j).natAbs ≤ i.natAbs + j.natAbs := Int.natAbs_add_le i j
  rw [Nat.pow_succ]
  omega
theorem Sm.neg {n : Nat} {i : Int} (h : Sm n i) : Sm n (-i) := by
  unfold Sm at *
  rw [Int.natAbs_neg]; exact h
theorem Sm.sub {n : Nat} {i j : Int} (h : Sm n i) (g : Sm n j) : Sm (n + 1) (i - j) := by
  rw [Int.sub_eq_add_neg]
  exact h.add g.neg
theorem Sm.le {n : Nat} {i j : Int} (h : Sm n j) (e : i.natAbs ≤ j.natAbs) : Sm n i := Nat.lt_of_le_of_lt e h
theorem Sm.cmul {n m : Nat} {i j : Int} (h : Sm n i) (g : Sm m j) (e : n + m ≤ 999000 := by decide) : CMulW i j := wide_mul (h.mono (Nat.le_succ n)) (g.mono (Nat.le_succ m)) (Nat.succ_pos _) (Nat.succ_pos _) (by omega)
theorem Sm.cdiv {n : Nat} {i j : Int} (h : Sm n j) (h0 : j ≠ 0) (e : n ≤ 8999 := by decide) : CDivX i j := by
  refine ⟨h0, ?_⟩
  have := PySem.Flt.log2_lt_of (k := n + 1) (Nat.succ_pos _) (h.mono (Nat.le_succ n))
  omega
end DL

namespace DL
open PySem L2
/-- a fraction as data -/
def fq (r : Rat) : D := .tup [.int r.num, .int (r.den : Int)]
def SzR (n : Nat) (r : Rat) : Prop := Sm n r.num ∧ Sm n (r.den : Int)
theorem SzR.mono {n m : Nat} {r : Rat} (h : SzR n r) (e : n ≤ m) : SzR m r := ⟨h.1.mono e, h.2.mono e⟩
theorem den_ne (r : Rat) : (r.den : Int) ≠ 0 := by
  have := r.den_pos; omega
theorem den_pos (r : Rat) : (0 : Int) < r.den := by
  have := r.den_pos; omega
/-- the sign of lowest's divisor -/
def sgcd (t b : Int) : Int := if 0 < b then gcdI t b else -gcdI t b
theorem gcdI_pos {t b : Int} (h : b ≠ 0) : 0 < gcdI t b := by
  unfold gcdI
  have : 0 < Nat.gcd t.natAbs b.natAbs := Nat.gcd_pos_of_pos_right _ (by omega)
  omega
theorem gcdI_le {t b : Int} (h : b ≠ 0) : (gcdI t b).natAbs ≤ b.natAbs := by
  unfold gcdI
  rw [Int.natAbs_natCast]
  exact Nat.gcd_le_right _ (by omega)
theorem gcd_split (t b : Int) : ∃ t' b' : Int, t = gcdI t b * t' ∧ b = gcdI t b * b' := by
  have h1 : gcdI t b ∣ t := by
    unfold gcdI
    exact Int.ofNat_dvd_left.mpr (Nat.gcd_dvd_left _ _)
  have h2 : gcdI t b ∣ b := by
    unfold gcdI
    exact Int.ofNat_dvd_left.mpr (Nat.gcd_dvd_right _ _)
  obtain ⟨x, hx⟩ := h1
  obtain ⟨y, hy⟩ := h2
  exact ⟨x, y, hx, hy⟩
theorem low_ok {t b : Int} (h : b ≠ 0) : t.fdiv (sgcd t b) = (Rat.divInt t b).num ∧ b.fdiv (sgcd t b) = ((Rat.divInt t b).den : Int) := by
  obtain ⟨t', b', et, eb⟩ := gcd_split t b
  have g0 := gcdI_pos (t := t) h
  have eg : ((b.gcd t : Nat) : Int) = gcdI t b := by
    unfold gcdI Int.gcd
    rw [Nat.gcd_comm]
  have hn : (Rat.divInt t b).num = b.sign * t' := by
    rw [Rat.num_divInt, eg]
    have : b.sign * t = gcdI t b * (b.sign * t') := by
      conv => lhs; rw [et]
      rw [← Int.mul_assoc, Int.mul_comm b.sign, Int.mul_assoc]
    rw [this, Int.mul_ediv_cancel_left _ (by omega)]
  have hd : ((Rat.divInt t b).den : Int) = b.sign * b' := by
    rw [Rat.den_divInt, if_neg h]
    have e1 : ((b.natAbs / b.gcd t : Nat) : Int) = (b.natAbs : Int) / gcdI t b := by
      rw [Int.natCast_ediv, eg]
    rw [e1]
    have : (b.natAbs : Int) = gcdI t b * (b.sign * b') := by
      rw [show (b.natAbs : Int) = b.sign * b from by rw [Int.sign_mul_self]]
      conv => lhs; rw [show b.sign * b = b.sign * (gcdI t b * b') from by rw [← eb]]
      rw [← Int.mul_assoc, Int.mul_comm b.sign, Int.mul_assoc]
    rw [this, Int.mul_ediv_cancel_left _ (by omega)]
  unfold sgcd
  by_cases hb : 0 < b
  · rw [if_pos hb]
    have s1 : b.sign = 1 := Int.sign_eq_one_of_pos hb
    rw [hn, hd, s1, Int.one_mul, Int.one_mul]
    constructor
    · conv => lhs; arg 1; rw [et]
      exact Int.mul_fdiv_cancel_left _ (by omega)
    · conv => lhs; arg 1; rw [eb]
      exact Int.mul_fdiv_cancel_left _ (by omega)
  · rw [if_neg hb]
    have s1 : b.sign = -1 := Int.sign_eq_neg_one_of_neg (by omega)
    rw [hn, hd, s1]
    have key : ∀ x : Int, (gcdI t b * x).fdiv (-gcdI t b) = -1 * x := fun x => by
      have : gcdI t b * x = (-gcdI t b) * (-1 * x) := by rw [Int.neg_mul, Int.neg_mul, Int.one_mul, Int.mul_neg, Int.neg_neg]
      rw [this]
      exact Int.mul_fdiv_cancel_left _ (by omega)
    constructor
    · conv => lhs; arg 1; rw [et]
      exact key _
    · conv => lhs; arg 1; rw [eb]
      exact key _
theorem sgcd_ne {t b : Int} (h : b ≠ 0) : sgcd t b ≠ 0 := by
  have := gcdI_pos (t := t) h
  unfold sgcd; split <;> omega
theorem sgcd_sm {t b : Int} {n : Nat} (h : b ≠ 0) (s : Sm n b) : Sm n (sgcd t b) := by
  refine s.le ?_
  have := gcdI_le (t := t) h
  unfold sgcd; split
  · exact this
  · rw [Int.natAbs_neg]; exact this
/-- the sizes of a fraction made -/
theorem divInt_sm {t b : Int} {n m : Nat} (h : b ≠ 0) (s : Sm n t) (s' : Sm m b) : Sm n (Rat.divInt t b).num ∧ Sm m ((Rat.divInt t b).den : Int) := by
  obtain ⟨t', b', et, eb⟩ := gcd_split t b
  obtain ⟨h1, h2⟩ := low_ok (t := t) h
  have key : ∀ x : Int, (x.fdiv (sgcd t b)).natAbs ≤ x.natAbs ∨ ¬ (gcdI t b ∣ x) := fun x => by
    by_cases hx : gcdI t b ∣ x
    · left
      obtain ⟨y, hy⟩ := hx
      have g0 := gcdI_pos (t := t) h
      have e : x.fdiv (sgcd t b) = y ∨ x.fdiv (sgcd t b) = -y := by
        unfold sgcd
        split
        · left
          rw [hy]; exact Int.mul_fdiv_cancel_left _ (by omega)
        · right
          have : gcdI t b * y = (-gcdI t b) * (-y) := by rw [Int.neg_mul, Int.mul_neg, Int.neg_neg]
          rw [hy, this]; exact Int.mul_fdiv_cancel_left _ (by omega)
      have e2 : y.natAbs ≤ x.natAbs := by
        rw [hy, Int.natAbs_mul]
        exact Nat.le_mul_of_pos_left _ (by omega)
      rcases e with e | e
      · rw [e]; exact e2
      · rw [e, Int.natAbs_neg]; exact e2
    · exact .inr hx
  refine ⟨s.le ?_, s'.le ?_⟩
  · rw [← h1]
    exact (key t).elim id fun z => absurd ⟨t', et⟩ z
  · rw [← h2]
    exact (key b).elim id fun z => absurd ⟨b', eb⟩ z
theorem rat_eq (r : Rat) : Rat.divInt r.num (r.den : Int) = r := by
  exact Rat.num_divInt_den r
theorem add_ok (p q : Rat) : Rat.divInt (p.num * q.den + q.num * p.den) (p.den * q.den) = p + q := by
  rw [← Rat.divInt_add_divInt _ _ (den_ne p) (den_ne q), rat_eq, rat_eq]
theorem sub_ok (p q : Rat) : Rat.divInt (p.num * q.den - q.num * p.den) (p.den * q.den) = p - q := by
  rw [← Rat.divInt_sub_divInt _ _ (den_ne p) (den_ne q), rat_eq, rat_eq]
theorem mul_ok (p q : Rat) : Rat.divInt (p.num * q.num) (p.den * q.den) = p * q := by
  rw [← Rat.divInt_mul_divInt, rat_eq, rat_eq]
theorem num_ne {q : Rat} (h : q ≠ 0) : q.num ≠ 0 := fun z => h (Rat.num_eq_zero.mp z)
theorem div_ok (p q : Rat) (h : q ≠ 0) : Rat.divInt (p.num * q.den) (p.den * q.num) = p / q := by
  have e : q⁻¹ = Rat.divInt q.den q.num := by
    conv => lhs; rw [← rat_eq q]
    exact Rat.inv_divInt _ _
  rw [← Rat.divInt_mul_divInt, rat_eq, Rat.div_def, e]
theorem SzR.add {n m : Nat} {p q : Rat} (h : SzR n p) (g : SzR m q) : SzR (n + m + 1) (p + q) := by
  rw [← add_ok]
  have := divInt_sm (t := p.num * q.den + q.num * p.den) (b := p.den * q.den) (n := n + m + 1) (m := n + m + 1) (Int.mul_ne_zero (den_ne p) (den_ne q)) (Sm.add (h.1.mul g.2) ((g.1.mul h.2).mono (by omega))) ((h.2.mul g.2).mono (by omega))
  exact this
theorem SzR.sub {n m : Nat} {p q : Rat} (h : SzR n p) (g : SzR m q) : SzR (n + m + 1) (p - q) := by
  rw [← sub_ok]
  exact divInt_sm (t := p.num * q.den - q.num * p.den) (b := p.den * q.den) (n := n + m + 1) (m := n + m + 1) (Int.mul_ne_zero (den_ne p) (den_ne q)) (Sm.sub (h.1.mul g.2) ((g.1.mul h.2).mono (by omega))) ((h.2.mul g.2).mono (by omega))
theorem SzR.mul {n m : Nat} {p q : Rat} (h : SzR n p) (g : SzR m q) : SzR (n + m) (p * q) := by
  rw [← mul_ok]
  exact divInt_sm (Int.mul_ne_zero (den_ne p) (den_ne q)) (h.1.mul g.1) (h.2.mul g.2)
theorem SzR.div {n m : Nat} {p q : Rat} (h : SzR n p) (g : SzR m q) (q0 : q ≠ 0) : SzR (n + m) (p / q) := by
  rw [← div_ok p q q0]
  exact divInt_sm (Int.mul_ne_zero (den_ne p) (num_ne q0)) (h.1.mul g.2) (h.2.mul g.1)
theorem SzR.neg {n : Nat} {p : Rat} (h : SzR n p) : SzR n (-p) := ⟨by rw [Rat.neg_num]; exact h.1.neg, by rw [Rat.neg_den]; exact h.2⟩
theorem lt_ok (p q : Rat) : decide (p.num * q.den < q.num * p.den) = decide (p < q) := decide_eq_decide.mpr (Rat.lt_iff p q).symm
theorem fq_inj {p q : Rat} (h : fq p = fq q) : p = q := by
  unfold fq at h
  have h := (D.tup.injEq _ _).mp h
  simp only [List.cons.injEq, D.int.injEq, and_true] at h
  exact Rat.ext h.1 (by omega)
end DL

namespace DL
open PySem L2
/-! ### what the program's defs promise -/
abbrev oI (i : Int) : W := .imm (.int i)
abbrev oQ (r : Rat) : W := .imm (fq r)
abbrev oB (b : Bool) : W := .imm (.bl b)
def sp_lowest : DSp := specF (α := Int × Int) (fun a => [oI a.1, oI a.2]) (fun a => a.2 ≠ 0 ∧ Sm 8900 a.2) fun a => oQ (Rat.divInt a.1 a.2)
abbrev spQQ (f : Rat → Rat → W) : DSp := specF (α := Rat × Rat) (fun a => [oQ a.1, oQ a.2]) (fun a => SzR 4400 a.1 ∧ SzR 4400 a.2) fun a => f a.1 a.2
def sp_added : DSp := spQQ fun p q => oQ (p + q)
def sp_lessened : DSp := spQQ fun p q => oQ (p - q)
def sp_multiplied : DSp := spQQ fun p q => oQ (p * q)
def sp_divided : DSp := specF (α := Rat × Rat) (fun a => [oQ a.1, oQ a.2]) (fun a => SzR 4400 a.1 ∧ SzR 4400 a.2 ∧ a.2 ≠ 0) fun a => oQ (a.1 / a.2)
def sp_is_less : DSp := spQQ fun p q => oB (decide (p < q))
def isIntD : D → Bool
  | .int _ => true
  | _ => false
def isTupD (n : Int) : D → Bool
  | .tup l => decide ((l.length : Int) = n)
  | _ => false
def isFrD : D → Bool
  | .tup [.int a, .int b] => decide (0 < b) && decide (gcdI a b = 1)
  | _ => false
def sp_is_integer : DSp := specF (α := D) (fun d => [.imm d]) (fun d => notTy d = true) fun d => oB (isIntD d)
def sp_is_tuple : DSp := specF (α := D × Int) (fun d => [.imm d.1, oI d.2]) (fun d => notTy d.1 = true) fun d => oB (isTupD d.2 d.1)
def sp_is_fraction : DSp := specF (α := D) (fun d => [.imm d]) (fun d => pyOk d = true) fun d => oB (isFrD d)
def sp_check_fractions : DSp := specF (α := Rat × Rat) (fun a => [oQ a.1, oQ a.2]) (fun _ => True) fun _ => .imm .non
def sp_fraction : DSp := sp_lowest
def sp_plus : DSp := sp_added
def sp_minus : DSp := sp_lessened
def sp_times : DSp := sp_multiplied
def sp_over : DSp := sp_divided
def sp_below : DSp := sp_is_less
end DL

namespace DL
open PySem L2
def T_lowest_1 : TDS := (TRet (TTup (TCons (TOp (rdI CDivX fun i j => i.fdiv j) (TVar 0) (TVar 2)) (TCons (TOp (rdI CDivX fun i j => i.fdiv j) (TVar 1) (TVar 2)) TNil))))
def T_lowest : TDS := TSeq (TSet (TIf (TB (TOp (rdCmp fun i j => decide (j < i)) (TVar 1) (TC (.int 0)))) (TCB (rdII gcdI) (TCons (TVar 0) (TCons (TVar 1) TNil))) (TUn rdNeg (TCB (rdII gcdI) (TCons (TVar 0) (TCons (TVar 1) TNil))))) (GName 2))
    (T_lowest_1)
def T_added : TDS := (TRet (TCall sp_lowest [false, false] (TCons (TOp rdAdd (TOp rdMul (TOp rdIx (TVar 0) (TC (.int 0))) (TOp rdIx (TVar 1) (TC (.int 1)))) (TOp rdMul (TOp rdIx (TVar 1) (TC (.int 0))) (TOp rdIx (TVar 0) (TC (.int 1))))) (TCons (TOp rdMul (TOp rdIx (TVar 0) (TC (.int 1))) (TOp rdIx (TVar 1) (TC (.int 1)))) TNil))))
def T_lessened : TDS := (TRet (TCall sp_lowest [false, false] (TCons (TOp rdSub (TOp rdMul (TOp rdIx (TVar 0) (TC (.int 0))) (TOp rdIx (TVar 1) (TC (.int 1)))) (TOp rdMul (TOp rdIx (TVar 1) (TC (.int 0))) (TOp rdIx (TVar 0) (TC (.int 1))))) (TCons (TOp rdMul (TOp rdIx (TVar 0) (TC (.int 1))) (TOp rdIx (TVar 1) (TC (.int 1)))) TNil))))
def T_multiplied : TDS := (TRet (TCall sp_lowest [false, false] (TCons (TOp rdMul (TOp rdIx (TVar 0) (TC (.int 0))) (TOp rdIx (TVar 1) (TC (.int 0)))) (TCons (TOp rdMul (TOp rdIx (TVar 0) (TC (.int 1))) (TOp rdIx (TVar 1) (TC (.int 1)))) TNil))))
def T_divided : TDS := (TRet (TCall sp_lowest [false, false] (TCons (TOp rdMul (TOp rdIx (TVar 0) (TC (.int 0))) (TOp rdIx (TVar 1) (TC (.int 1)))) (TCons (TOp rdMul (TOp rdIx (TVar 0) (TC (.int 1))) (TOp rdIx (TVar 1) (TC (.int 0)))) TNil))))
def T_is_less : TDS := (TRet (TOp (rdCmp fun i j => decide (i < j)) (TOp rdMul (TOp rdIx (TVar 0) (TC (.int 0))) (TOp rdIx (TVar 1) (TC (.int 1)))) (TOp rdMul (TOp rdIx (TVar 1) (TC (.int 0))) (TOp rdIx (TVar 0) (TC (.int 1))))))
def T_is_integer : TDS := (TRet (TAndV (TCB rdIsi (TCons (TVar 0) (TCons (TC (.ty .int)) TNil))) (TNotV (TCB rdIsi (TCons (TVar 0) (TCons (TC (.ty .bool)) TNil))))))
def T_is_tuple : TDS := (TRet (TAndV (TCB rdIsi (TCons (TVar 0) (TCons (TC (.ty .tuple)) TNil))) (TOp rdEq (TCB rdLen (TCons (TVar 0) TNil)) (TVar 1))))
def T_is_fraction_2 : TDS := (TRet (TAndV (TCall sp_is_integer [false] (TCons (TVar 1) TNil)) (TAndV (TCall sp_is_integer [false] (TCons (TVar 2) TNil)) (TAndV (TOp (rdCmp fun i j => decide (j < i)) (TVar 2) (TC (.int 0))) (TOp rdEq (TCB (rdII gcdI) (TCons (TVar 1) (TCons (TVar 2) TNil))) (TC (.int 1)))))))
def T_is_fraction_1 : TDS := TSeq (TSet (TVar 0) (GAny 2 (GCons (GName 1) (GCons (GName 2) GNil))))
    (T_is_fraction_2)
def T_is_fraction : TDS := TSeq (TIfS (TNot (TTru (TCall sp_is_tuple [false, false] (TCons (TVar 0) (TCons (TC (.int 2)) TNil))))) (TRet (TC (.bl false))) TNext)
    (T_is_fraction_1)
def T_check_fractions_1 : TDS := (TIfS (TNot (TTru (TCall sp_is_fraction [false] (TCons (TVar 1) TNil)))) TNever TNext)
def T_check_fractions : TDS := TSeq (TIfS (TNot (TTru (TCall sp_is_fraction [false] (TCons (TVar 0) TNil)))) TNever TNext)
    (T_check_fractions_1)
def T_fraction_2 : TDS := (TRet (TCall sp_lowest [false, false] (TCons (TVar 0) (TCons (TVar 1) TNil))))
def T_fraction_1 : TDS := TSeq (TIfS (TOr (TNot (TTru (TCall sp_is_integer [false] (TCons (TVar 1) TNil)))) (TB (TOp rdEq (TVar 1) (TC (.int 0))))) TNever TNext)
    (T_fraction_2)
def T_fraction : TDS := TSeq (TIfS (TNot (TTru (TCall sp_is_integer [false] (TCons (TVar 0) TNil)))) TNever TNext)
    (T_fraction_1)
def T_plus_1 : TDS := (TRet (TCall sp_added [false, false] (TCons (TVar 0) (TCons (TVar 1) TNil))))
def T_plus : TDS := TSeq (TDrop (TCall sp_check_fractions [false, false] (TCons (TVar 0) (TCons (TVar 1) TNil))))
    (T_plus_1)
def T_minus_1 : TDS := (TRet (TCall sp_lessened [false, false] (TCons (TVar 0) (TCons (TVar 1) TNil))))
def T_minus : TDS := TSeq (TDrop (TCall sp_check_fractions [false, false] (TCons (TVar 0) (TCons (TVar 1) TNil))))
    (T_minus_1)
def T_times_1 : TDS := (TRet (TCall sp_multiplied [false, false] (TCons (TVar 0) (TCons (TVar 1) TNil))))
def T_times : TDS := TSeq (TDrop (TCall sp_check_fractions [false, false] (TCons (TVar 0) (TCons (TVar 1) TNil))))
    (T_times_1)
def T_over_2 : TDS := (TRet (TCall sp_divided [false, false] (TCons (TVar 0) (TCons (TVar 1) TNil))))
def T_over_1 : TDS := TSeq (TIfS (TB (TOp rdEq (TVar 1) (TC (.tup [(.int 0), (.int 1)])))) TNever TNext)
    (T_over_2)
def T_over : TDS := TSeq (TDrop (TCall sp_check_fractions [false, false] (TCons (TVar 0) (TCons (TVar 1) TNil))))
    (T_over_1)
def T_below_1 : TDS := (TRet (TCall sp_is_less [false, false] (TCons (TVar 0) (TCons (TVar 1) TNil))))
def T_below : TDS := TSeq (TDrop (TCall sp_check_fractions [false, false] (TCons (TVar 0) (TCons (TVar 1) TNil))))
    (T_below_1)
theorem rd_lowest : ∀ ws q, sp_lowest ws q → T_lowest (endsE ws q) (start0 3 ws) := by
  rintro ws q ⟨⟨t, b⟩, rfl, ⟨h0, hs⟩, hq⟩
  have e := low_ok (t := t) h0
  have n0 := sgcd_ne (t := t) h0
  have sm : ∀ i, CDivX i (sgcd t b) := fun i => (sgcd_sm (t := t) h0 hs).cdiv n0 (by decide)
  refine brD (fun hb => ?_) fun hb => ?_
  · have es : sgcd t b = gcdI t b := if_pos hb
    rw [es] at e sm
    refine ⟨sm _, sm _, ?_⟩
    show q (.imm (.tup [.int (t.fdiv (gcdI t b)), .int (b.fdiv (gcdI t b))])) []
    rw [e.1, e.2]
    exact hq
  · have es : sgcd t b = -gcdI t b := if_neg hb
    rw [es] at e sm
    refine ⟨sm _, sm _, ?_⟩
    show q (.imm (.tup [.int (t.fdiv (-gcdI t b)), .int (b.fdiv (-gcdI t b))])) []
    rw [e.1, e.2]
    exact hq
theorem rd_added : ∀ ws q, sp_added ws q → T_added (endsE ws q) (start0 2 ws) := by
  rintro ws q ⟨⟨p, r⟩, rfl, ⟨h1, h2⟩, hq⟩
  refine ⟨h1.1.cmul h2.2, h2.1.cmul h1.2, h1.2.cmul h2.2, ?_⟩
  refine ask ⟨(_, _), rfl, ⟨Int.mul_ne_zero (den_ne p) (den_ne r), (h1.2.mul h2.2).mono (by decide)⟩, ?_⟩
  show q (oQ (Rat.divInt _ _)) []
  rw [add_ok]
  exact hq
theorem rd_lessened : ∀ ws q, sp_lessened ws q → T_lessened (endsE ws q) (start0 2 ws) := by
  rintro ws q ⟨⟨p, r⟩, rfl, ⟨h1, h2⟩, hq⟩
  refine ⟨h1.1.cmul h2.2, h2.1.cmul h1.2, h1.2.cmul h2.2, ?_⟩
  refine ask ⟨(_, _), rfl, ⟨Int.mul_ne_zero (den_ne p) (den_ne r), (h1.2.mul h2.2).mono (by decide)⟩, ?_⟩
  show q (oQ (Rat.divInt _ _)) []
  rw [sub_ok]
  exact hq
theorem rd_multiplied : ∀ ws q, sp_multiplied ws q → T_multiplied (endsE ws q) (start0 2 ws) := by
  rintro ws q ⟨⟨p, r⟩, rfl, ⟨h1, h2⟩, hq⟩
  refine ⟨h1.1.cmul h2.1, h1.2.cmul h2.2, ?_⟩
  refine ask ⟨(_, _), rfl, ⟨Int.mul_ne_zero (den_ne p) (den_ne r), (h1.2.mul h2.2).mono (by decide)⟩, ?_⟩
  show q (oQ (Rat.divInt _ _)) []
  rw [mul_ok]
  exact hq
theorem rd_divided : ∀ ws q, sp_divided ws q → T_divided (endsE ws q) (start0 2 ws) := by
  rintro ws q ⟨⟨p, r⟩, rfl, ⟨h1, h2, h3⟩, hq⟩
  refine ⟨h1.1.cmul h2.2, h1.2.cmul h2.1, ?_⟩
  refine ask ⟨(_, _), rfl, ⟨Int.mul_ne_zero (den_ne p) (num_ne h3), (h1.2.mul h2.1).mono (by decide)⟩, ?_⟩
  show q (oQ (Rat.divInt _ _)) []
  rw [div_ok p r h3]
  exact hq
theorem rd_is_less : ∀ ws q, sp_is_less ws q → T_is_less (endsE ws q) (start0 2 ws) := by
  rintro ws q ⟨⟨p, r⟩, rfl, ⟨h1, h2⟩, hq⟩
  refine ⟨h1.1.cmul h2.2, h2.1.cmul h1.2, ?_⟩
  show q (oB (decide _)) []
  rw [lt_ok]
  exact hq
theorem rd_is_integer : ∀ ws q, sp_is_integer ws q → T_is_integer (endsE ws q) (start0 1 ws) := by
  rintro ws q ⟨d, rfl, hn, hq⟩
  refine ⟨hn, ?_⟩
  cases d <;> first | exact hq | exact ⟨hn, hq⟩ | cases hn
theorem rd_is_tuple : ∀ ws q, sp_is_tuple ws q → T_is_tuple (endsE ws q) (start0 2 ws) := by
  rintro ws q ⟨⟨d, n⟩, rfl, hn, hq⟩
  refine ⟨hn, ?_⟩
  cases d <;> first | exact hq | cases hn
theorem notTy_of {d : D} (h : pyOk d = true) : notTy d = true := by
  cases d <;> first | rfl | cases h
theorem rd_is_fraction : ∀ ws q, sp_is_fraction ws q → T_is_fraction (endsE ws q) (start0 3 ws) := by
  rintro ws q ⟨d, rfl, hn, hq⟩
  refine ask ⟨(_, _), rfl, notTy_of hn, ?_⟩
  cases d with
  | tup l =>
    match l, hn, hq with
    | [a, b], hn, hq =>
      have hn : (pyOk a && (pyOk b && true)) = true := hn
      rw [Bool.and_true, Bool.and_eq_true] at hn
      refine ask ⟨a, rfl, notTy_of hn.1, ?_⟩
      cases a with
      | int i =>
        refine ask ⟨b, rfl, notTy_of hn.2, ?_⟩
        cases b with
        | int j =>
          refine brD (fun hj => ?_) fun hj => ?_
          · have e : isFrD (.tup [.int i, .int j]) = decide (gcdI i j = 1) := by
              show (decide (0 < j) && _) = _
              rw [decide_eq_true hj, Bool.true_and]
            show q (oB (decide (gcdI i j = 1))) []
            rw [← e]; exact hq
          · have e : isFrD (.tup [.int i, .int j]) = false := by
              show (decide (0 < j) && _) = _
              rw [decide_eq_false hj, Bool.false_and]
            show q (oB false) []
            rw [← e]; exact hq
        | _ => exact hq
      | _ => exact hq
    | [], hn, hq => exact hq
    | [x], hn, hq =>
      have e : isFrD (.tup [x]) = false := by cases x <;> rfl
      have hq : q (oB false) [] := by rw [← e]; exact hq
      exact hq
    | x :: y :: z :: r, hn, hq =>
      have e : isFrD (.tup (x :: y :: z :: r)) = false := by cases x <;> cases y <;> rfl
      have hq : q (oB false) [] := by rw [← e]; exact hq
      refine force_i ?_
      show br (!decide (((x :: y :: z :: r).length : Int) = 2)) _ _
      refine br_t ?_ hq
      show (!decide (((x :: y :: z :: r).length : Int) = 2)) = true
      rw [decide_eq_false (by simp only [List.length_cons]; omega)]
      rfl
  | _ => exact hq
theorem isFr_fq (r : Rat) : isFrD (fq r) = true := by
  show (decide (0 < (r.den : Int)) && decide (gcdI r.num r.den = 1)) = true
  rw [decide_eq_true (den_pos r), Bool.true_and]
  refine decide_eq_true ?_
  unfold gcdI
  rw [Int.natAbs_natCast]
  have := r.reduced
  unfold Nat.Coprime at this
  omega
theorem rd_check_fractions : ∀ ws q, sp_check_fractions ws q → T_check_fractions (endsE ws q) (start0 2 ws) := by
  rintro ws q ⟨⟨p, r⟩, rfl, _, hq⟩
  refine ask ⟨fq p, rfl, rfl, ?_⟩
  show br (!isFrD (fq p)) _ _
  rw [isFr_fq]
  refine ask ⟨fq r, rfl, rfl, ?_⟩
  show br (!isFrD (fq r)) _ _
  rw [isFr_fq]
  exact hq
theorem rd_fraction : ∀ ws q, sp_fraction ws q → T_fraction (endsE ws q) (start0 2 ws) := by
  rintro ws q ⟨⟨t, b⟩, rfl, ⟨h0, hs⟩, hq⟩
  refine ask ⟨_, rfl, rfl, ?_⟩
  refine ask ⟨_, rfl, rfl, ?_⟩
  refine brD (fun z => absurd z h0) fun _ => ?_
  exact ask ⟨(_, _), rfl, ⟨h0, hs⟩, hq⟩
theorem rd_plus : ∀ ws q, sp_plus ws q → T_plus (endsE ws q) (start0 2 ws) := by
  rintro ws q ⟨⟨p, r⟩, rfl, h, hq⟩
  exact ask ⟨(_, _), rfl, trivial, ask ⟨(_, _), rfl, h, hq⟩⟩
theorem rd_minus : ∀ ws q, sp_minus ws q → T_minus (endsE ws q) (start0 2 ws) := by
  rintro ws q ⟨⟨p, r⟩, rfl, h, hq⟩
  exact ask ⟨(_, _), rfl, trivial, ask ⟨(_, _), rfl, h, hq⟩⟩
theorem rd_times : ∀ ws q, sp_times ws q → T_times (endsE ws q) (start0 2 ws) := by
  rintro ws q ⟨⟨p, r⟩, rfl, h, hq⟩
  exact ask ⟨(_, _), rfl, trivial, ask ⟨(_, _), rfl, h, hq⟩⟩
theorem eqOk_fq (p q : Rat) : eqOk (fq p) (fq q) = true := rfl
theorem eqv_fq (p q : Rat) : PyData.eqv (py (fq p)) (py (fq q)) = decide (p = q) := by
  have e : PyData.eqv (py (fq p)) (py (fq q)) = ((p.num == q.num) && (((p.den : Int) == (q.den : Int)) && true)) := by
    unfold fq
    simp only [py, pys, PyData.eqv, PyData.eqvAll]
  rw [e, Bool.and_true]
  by_cases h : p = q
  · subst h
    simp
  · rw [decide_eq_false h]
    by_cases h1 : p.num = q.num
    · by_cases h2 : (p.den : Int) = q.den
      · exact absurd (Rat.ext h1 (by omega)) h
      · simp [h2]
    · simp [h1]
theorem rd_over : ∀ ws q, sp_over ws q → T_over (endsE ws q) (start0 2 ws) := by
  rintro ws q ⟨⟨p, r⟩, rfl, h, hq⟩
  refine ask ⟨(_, _), rfl, trivial, ⟨rfl, ?_⟩⟩
  show br (PyData.eqv (py (fq r)) (py (fq 0))) _ _
  rw [eqv_fq, decide_eq_false h.2.2]
  exact ask ⟨(_, _), rfl, h, hq⟩
theorem rd_below : ∀ ws q, sp_below ws q → T_below (endsE ws q) (start0 2 ws) := by
  rintro ws q ⟨⟨p, r⟩, rfl, h, hq⟩
  exact ask ⟨(_, _), rfl, trivial, ask ⟨(_, _), rfl, h, hq⟩⟩
end DL

namespace DL
open PySem L2
/-! ### what the law's defs promise -/
structure Bx where
  n : Int
  g : Bool
  m : Int
  c : Int
def bxl (b : Bx) : List D := [.int b.n, .bl b.g, .int b.m, .int b.c]
abbrev oX (b : Bx) : W := .own none (bxl b)
structure Bk (k : Nat) (b : Bx) : Prop where
  n0 : 0 ≤ b.n
  m0 : 0 ≤ b.m
  m1 : b.m < 2147483629
  c0 : 0 ≤ b.c
  c1 : b.c ≤ (k : Int)
theorem Bk.mono {k j : Nat} {b : Bx} (h : Bk k b) (e : k ≤ j) : Bk j b := ⟨h.n0, h.m0, h.m1, h.c0, by have := h.c1; omega⟩
/-- so many draws at most -/
def lineC : Nat := 1000000
def sp__law_cell : DSp := specR (α := List Int × Int) (ρ := Int) (fun a => [.imm (.fz (a.1.map D.int)), oI a.2]) (fun a => 0 ≤ a.2 ∧ a.2 < 2 ^ 32) (fun _ _ => True) (fun _ r => oI r) fun _ _ => []
def sp__law_box : DSp := specR (α := Int) (ρ := Bx) (fun g => [oI g]) (fun _ => True) (fun _ b => Bk 0 b) (fun _ b => oX b) fun _ _ => []
/-- a def that draws: at most so many draws -/
abbrev spDraw {α ρ : Type} (enc : α → List W) (pre : α → Prop) (N : α → Nat) (post : α → ρ → Prop) (res : α → ρ → W) : DSp :=
  specR (α := Bx × Nat × α) (ρ := Bx × ρ) (fun a => oX a.1 :: enc a.2.2) (fun a => (Bk a.2.1 a.1 ∧ a.2.1 + N a.2.2 ≤ lineC) ∧ pre a.2.2) (fun a r => Bk (a.2.1 + N a.2.2) r.1 ∧ post a.2.2 r.2) (fun a r => res a.2.2 r.2) fun _ r => bxl r.1
def sp__law_take : DSp := spDraw (α := Int) (ρ := Int) (fun k => [oI k]) (fun k => 0 < k ∧ k < 2 ^ 62) (fun _ => 1) (fun k r => 0 ≤ r ∧ r < k) fun _ r => oI r
def sp__law_pick : DSp := spDraw (α := D × List D) (ρ := D) (fun a => [.imm a.1]) (fun a => seqOf a.1 = some a.2 ∧ a.2 ≠ [] ∧ a.2.length < 2 ^ 20) (fun _ => 1) (fun a r => r ∈ a.2) fun _ r => .imm r
def sp__law_mixed : DSp := spDraw (α := D × List D) (ρ := List D) (fun a => [.imm a.1]) (fun a => seqOf a.1 = some a.2 ∧ a.2.length ≤ 1000) (fun a => a.2.length) (fun a r => r.Perm a.2) fun _ r => .own none r
def sameOk : Nat → D → Bool
  | _, .non => true
  | _, .bl _ => true
  | _, .int _ => true
  | n + 1, .tup l => Nat.ble l.length 1000 && l.all (sameOk n)
  | n + 1, .lst l => Nat.ble l.length 1000 && l.all (sameOk n)
  | _, _ => false
def sp_same (n : Nat) : DSp := specF (α := D) (fun d => [.imm d, .imm d]) (fun d => sameOk n d = true) fun _ => oB true
def sp__law_same : DSp := sp_same 5
def sp__law_low : DSp := specF (α := Int × Int) (fun a => [oI a.1, oI a.2]) (fun a => a.2 ≠ 0 ∧ Sm 8900 a.2 ∧ Sm 20000 a.1) fun a => oQ (Rat.divInt a.1 a.2)
def sp__law_plus : DSp := sp_added
def sp__law_minus : DSp := sp_lessened
def sp__law_times : DSp := sp_multiplied
def sp__law_over : DSp := sp_divided
def sp__law_less : DSp := sp_is_less
abbrev oL (l : List Rat) : D := .lst (l.map fq)
def sumR (l : List Rat) : Rat := l.foldl (· + ·) 0
def sp__law_sum : DSp := specF (α := List Rat × Nat) (fun a => [.imm (oL a.1)]) (fun a => (∀ r ∈ a.1, SzR a.2 r) ∧ 1 + a.1.length * (a.2 + 1) ≤ 4400) fun a => oQ (sumR a.1)
def sp__law_number : DSp := spDraw (α := Int) (ρ := Rat) (fun g => [oI g]) (fun g => 0 ≤ g ∧ g ≤ 60) (fun _ => 4) (fun _ r => SzR 250 r) fun _ r => oQ r
/-- 1 with so many noughts -/
@[irreducible] def p10 (n : Nat) : Int := 10 ^ n
theorem p10_0 : p10 0 = 1 := by unfold p10; rfl
theorem p10_s (n : Nat) : p10 (n + 1) = p10 n * 10 := by unfold p10; exact Int.pow_succ ..
def sp__law_power : DSp := specR (α := Int) (ρ := Int) (fun k => [oI k]) (fun k => -10 ≤ k ∧ k ≤ 300) (fun k r => r = p10 k.toNat) (fun _ r => oI r) fun _ _ => []
def sp__law_great : DSp := spDraw (α := Unit) (ρ := Int) (fun _ => []) (fun _ => True) (fun _ => 3) (fun _ r => 0 < r ∧ Sm 1090 r) fun _ r => oI r
def sp__law_five : DSp := spDraw (α := Unit) (ρ := List Rat) (fun _ => []) (fun _ => True) (fun _ => 40) (fun _ r => r.length = 5 ∧ ∀ x ∈ r, SzR 1100 x) fun _ r => .own none (r.map fq)
def sp__law_two_right : DSp := specF (α := Rat × Rat × Bool) (fun a => [oQ a.1, oQ a.2.1, oB a.2.2]) (fun a => SzR 1100 a.1 ∧ SzR 1100 a.2.1) fun _ => oB true
def sp__law_three_right : DSp := specF (α := Rat × Rat × Rat × Bool) (fun a => [oQ a.1, oQ a.2.1, oQ a.2.2.1, oB a.2.2.2]) (fun a => SzR 1100 a.1 ∧ SzR 1100 a.2.1 ∧ SzR 1100 a.2.2.1) fun _ => oB true
def sp__law_rows_right : DSp := spDraw (α := List Rat × Bool) (ρ := Unit) (fun a => [.imm (oL a.1), oB a.2]) (fun a => a.1.length ≤ 20 ∧ ∀ x ∈ a.1, SzR 1100 x) (fun _ => 1) (fun _ _ => True) fun _ _ => oB true
def sp__law_made_right : DSp := spDraw (α := Bool) (ρ := Unit) (fun a => [oB a]) (fun _ => True) (fun _ => 40) (fun _ _ => True) fun _ _ => oB true
def sp_law : DSp := specF (α := List Int) (fun ns => [.imm (.fz (ns.map D.int))]) (fun ns => ns.length ≤ 63) fun _ => oB true
end DL

namespace DL
open PySem L2
def spS : Nat → DSp
  | 0 => fun _ _ => False
  | n + 1 => sp_same n
def T__law_cell : TDS := (TRet (TIf (TB (TOp (rdCmp fun i j => decide (i < j)) (TVar 1) (TCB rdLen (TCons (TVar 0) TNil)))) (TOp rdIxS (TVar 0) (TVar 1)) (TOp rdAdd (TOp rdMul (TC (.int 8503)) (TVar 1)) (TOp (rdI (fun _ j => 0 < j) fun i j => i % j) (TCB rdInt (TCons (TCB rdSum (TCons (TSl (TVar 0) TNoPart (TPart (TC (.int 1)))) TNil)) TNil)) (TC (.int 1000003))))))
def T__law_box : TDS := (TRet (TLst (TCons (TCB rdAbs (TCons (TVar 0) TNil)) (TCons (TOp (rdCmp fun i j => decide (j ≤ i)) (TCB rdAbs (TCons (TVar 0) TNil)) (TOp (rdI CPow fun i j => i ^ j.toNat) (TC (.int 10)) (TC (.int 18)))) (TCons (TOp (rdI (fun _ j => 0 < j) fun i j => i % j) (TCB rdInt (TCons (TCB rdAbs (TCons (TVar 0) TNil)) TNil)) (TC (.int 2147483629))) (TCons (TC (.int 0)) TNil))))))
def T__law_take_3 : TDS := (TRet (TOp (rdI (fun _ j => 0 < j) fun i j => i % j) (TCB rdInt (TCons (TOp (rdI CDivX fun i j => i.fdiv j) (TOp (rdI (fun _ j => 0 < j) fun i j => i % j) (TCB rdInt (TCons (TOp (rdI CPow fun i j => i ^ j.toNat) (TOp rdAdd (TOp rdMul (TVar 3) (TC (.int 48271))) (TOp rdMul (TC (.int 6397)) (TOp rdIx (TVar 0) (TC (.int 3))))) (TC (.int 3))) TNil)) (TC (.int 2147483587))) (TC (.int 64))) TNil)) (TVar 1)))
def T__law_take_2 : TDS := TSeq (TSet (TOp (rdI (fun _ j => 0 < j) fun i j => i % j) (TCB rdInt (TCons (TOp (rdI CPow fun i j => i ^ j.toNat) (TOp rdAdd (TOp rdAdd (TOp rdIx (TVar 0) (TC (.int 2))) (TOp rdMul (TC (.int 15488005)) (TOp rdIx (TVar 0) (TC (.int 3))))) (TC (.int 179432103))) (TC (.int 5))) TNil)) (TC (.int 2147483647))) (GName 3))
    (T__law_take_3)
def T__law_take_1 : TDS := TSeq (TSetIx 0 (TOp rdAdd (TOp rdIx (TVar 0) (TC (.int 3))) (TC (.int 1))) (TC (.int 3)))
    (T__law_take_2)
def T__law_take : TDS := TSeq (TIfS (TAnd (TTru (TOp rdIx (TVar 0) (TC (.int 1)))) (TB (TOp (rdCmp fun i j => decide (j < i)) (TOp rdIx (TVar 0) (TC (.int 0))) (TC (.int 0))))) (TSeq (TSet (TOp (rdI (fun _ j => 0 < j) fun i j => i % j) (TCB rdInt (TCons (TOp rdIx (TVar 0) (TC (.int 0))) TNil)) (TVar 1)) (GName 2))
    (TSeq (TSetIx 0 (TOp (rdI CDivX fun i j => i.fdiv j) (TCB rdInt (TCons (TOp rdIx (TVar 0) (TC (.int 0))) TNil)) (TVar 1)) (TC (.int 0)))
    (TRet (TVar 2)))) TNext)
    (T__law_take_1)
def T__law_pick : TDS := (TRet (TOp rdIxS (TVar 1) (TCall sp__law_take [true, false] (TCons (TVar 0) (TCons (TCB rdLen (TCons (TVar 1) TNil)) TNil)))))
def T__law_mixed_2 : TDS := (TRet (TVar 3))
def T__law_mixed_1 : TDS := TSeq (TFor (IRng1 (TCons (TCB rdLen (TCons (TVar 1) TNil)) TNil)) (GName 4) (TDrop (TAppend 3 (TCons (TPopAt 2 (TCons (TCall sp__law_take [true, false] (TCons (TVar 0) (TCons (TCB rdLen (TCons (TVar 2) TNil)) TNil))) TNil)) TNil))))
    (T__law_mixed_2)
def T__law_mixed : TDS := TSeq (TPar 2 3 true true (TCons (TCB rdList (TCons (TVar 1) TNil)) (TCons (TLst TNil) TNil)))
    (T__law_mixed_1)
def T__law_same_4 (spI : DSp) : TDS := (TRet (TAndV (TOp rdEq (TCB rdLen (TCons (TVar 0) TNil)) (TCB rdLen (TCons (TVar 1) TNil))) (TOp rdEq (TLc (IRng1 (TCons (TCB rdLen (TCons (TVar 1) TNil)) TNil)) (GName 2) (TNot (TTru (TCall spI [false, false] (TCons (TOp rdIxS (TVar 0) (TVar 2)) (TCons (TOp rdIxS (TVar 1) (TVar 2)) TNil))))) (TVar 2) [2]) (TLst TNil))))
def T__law_same_3 (spI : DSp) : TDS := TSeq (TIfS (TOr (TB (TOp rdNe (TCB rdIsi (TCons (TVar 0) (TCons (TC (.ty .list)) TNil))) (TCB rdIsi (TCons (TVar 1) (TCons (TC (.ty .list)) TNil))))) (TB (TOp rdNe (TCB rdIsi (TCons (TVar 0) (TCons (TC (.ty .tuple)) TNil))) (TCB rdIsi (TCons (TVar 1) (TCons (TC (.ty .tuple)) TNil)))))) (TRet (TC (.bl false))) TNext)
    (T__law_same_4 spI)
def T__law_same_2 (spI : DSp) : TDS := TSeq (TIfS (TTru (TCB rdIsi (TCons (TVar 1) (TCons (TC (.ty .str)) TNil)))) (TRet (TAndV (TCB rdIsi (TCons (TVar 0) (TCons (TC (.ty .str)) TNil))) (TAndV (TOp rdEq (TCB rdLen (TCons (TVar 0) TNil)) (TCB rdLen (TCons (TVar 1) TNil))) (TOp rdEq (TLc (IRng1 (TCons (TCB rdLen (TCons (TVar 1) TNil)) TNil)) (GName 2) (TB (TOp rdNe (TSl (TVar 0) (TPart (TVar 2)) (TPart (TOp rdAdd (TVar 2) (TC (.int 1))))) (TOp rdIxS (TVar 1) (TVar 2)))) (TVar 2) [2]) (TLst TNil))))) TNext)
    (T__law_same_3 spI)
def T__law_same_1 (spI : DSp) : TDS := TSeq (TIfS (TTru (TCB rdIsi (TCons (TVar 1) (TCons (TC (.ty .int)) TNil)))) (TRet (TAndV (TCB rdIsi (TCons (TVar 0) (TCons (TC (.ty .int)) TNil))) (TAndV (TNotV (TCB rdIsi (TCons (TVar 0) (TCons (TC (.ty .bool)) TNil)))) (TOp rdEq (TOp rdSub (TCB rdInt (TCons (TVar 0) TNil)) (TVar 1)) (TC (.int 0)))))) TNext)
    (T__law_same_2 spI)
def T__law_same (spI : DSp) : TDS := TSeq (TIfS (TOr (TB (TOp rdIs (TVar 1) (TC .non))) (TTru (TCB rdIsi (TCons (TVar 1) (TCons (TC (.ty .bool)) TNil))))) (TRet (TIf (TB (TOp rdIs (TVar 1) (TC .non))) (TOp rdIs (TVar 0) (TC .non)) (TAndV (TCB rdIsi (TCons (TVar 0) (TCons (TC (.ty .bool)) TNil))) (TOp rdEq (TOp rdIs (TVar 0) (TC (.bl true))) (TOp rdIs (TVar 1) (TC (.bl true))))))) TNext)
    (T__law_same_1 spI)
def T__law_low_3 : TDS := (TRet (TTup (TCons (TOp (rdI CDivX fun i j => i.fdiv j) (TOp rdMul (TVar 4) (TVar 0)) (TVar 2)) (TCons (TOp (rdI CDivX fun i j => i.fdiv j) (TOp rdMul (TVar 4) (TVar 1)) (TVar 2)) TNil))))
def T__law_low_2 : TDS := TSeq (TSet (TIf (TB (TOp (rdCmp fun i j => decide (i < j)) (TVar 1) (TC (.int 0)))) (TUn rdNeg (TC (.int 1))) (TC (.int 1))) (GName 4))
    (T__law_low_3)
def T__law_low_1 : TDS := TSeq (TWhile (TB (TOp (rdCmp fun i j => decide (j < i)) (TVar 3) (TC (.int 0)))) (TPar 2 3 false false (TCons (TVar 3) (TCons (TOp (rdI (fun _ j => 0 < j) fun i j => i % j) (TCB rdInt (TCons (TVar 2) TNil)) (TVar 3)) TNil))))
    (T__law_low_2)
def T__law_low : TDS := TSeq (TPar 2 3 false false (TCons (TCB rdAbs (TCons (TVar 0) TNil)) (TCons (TCB rdAbs (TCons (TVar 1) TNil)) TNil)))
    (T__law_low_1)
def T__law_plus : TDS := (TRet (TCall sp__law_low [false, false] (TCons (TOp rdAdd (TOp rdMul (TOp rdIx (TVar 0) (TC (.int 0))) (TOp rdIx (TVar 1) (TC (.int 1)))) (TOp rdMul (TOp rdIx (TVar 1) (TC (.int 0))) (TOp rdIx (TVar 0) (TC (.int 1))))) (TCons (TOp rdMul (TOp rdIx (TVar 0) (TC (.int 1))) (TOp rdIx (TVar 1) (TC (.int 1)))) TNil))))
def T__law_minus : TDS := (TRet (TCall sp__law_low [false, false] (TCons (TOp rdSub (TOp rdMul (TOp rdIx (TVar 0) (TC (.int 0))) (TOp rdIx (TVar 1) (TC (.int 1)))) (TOp rdMul (TOp rdIx (TVar 1) (TC (.int 0))) (TOp rdIx (TVar 0) (TC (.int 1))))) (TCons (TOp rdMul (TOp rdIx (TVar 0) (TC (.int 1))) (TOp rdIx (TVar 1) (TC (.int 1)))) TNil))))
def T__law_times : TDS := (TRet (TCall sp__law_low [false, false] (TCons (TOp rdMul (TOp rdIx (TVar 0) (TC (.int 0))) (TOp rdIx (TVar 1) (TC (.int 0)))) (TCons (TOp rdMul (TOp rdIx (TVar 0) (TC (.int 1))) (TOp rdIx (TVar 1) (TC (.int 1)))) TNil))))
def T__law_over : TDS := (TRet (TCall sp__law_low [false, false] (TCons (TOp rdMul (TOp rdIx (TVar 0) (TC (.int 0))) (TOp rdIx (TVar 1) (TC (.int 1)))) (TCons (TOp rdMul (TOp rdIx (TVar 0) (TC (.int 1))) (TOp rdIx (TVar 1) (TC (.int 0)))) TNil))))
def T__law_less : TDS := (TRet (TOp (rdCmp fun i j => decide (i < j)) (TOp rdMul (TOp rdIx (TVar 0) (TC (.int 0))) (TOp rdIx (TVar 1) (TC (.int 1)))) (TOp rdMul (TOp rdIx (TVar 1) (TC (.int 0))) (TOp rdIx (TVar 0) (TC (.int 1))))))
def T__law_sum_2 : TDS := (TRet (TVar 1))
def T__law_sum_1 : TDS := TSeq (TFor (ISeq (TVar 0)) (GName 2) (TSet (TCall sp__law_plus [false, false] (TCons (TVar 1) (TCons (TVar 2) TNil))) (GName 1)))
    (T__law_sum_2)
def T__law_sum : TDS := TSeq (TSet (TTup (TCons (TC (.int 0)) (TCons (TC (.int 1)) TNil))) (GName 1))
    (T__law_sum_1)
def T__law_number_3 : TDS := (TRet (TCall sp__law_low [false, false] (TCons (TOp rdSub (TCall sp__law_take [true, false] (TCons (TVar 0) (TCons (TC (.int 13)) TNil))) (TC (.int 6))) (TCons (TCall sp__law_pick [true, false] (TCons (TVar 0) (TCons (TLst (TCons (TC (.int 1)) (TCons (TC (.int 1)) (TCons (TC (.int 1)) (TCons (TC (.int 2)) (TCons (TC (.int 3)) (TCons (TC (.int 4)) (TCons (TC (.int 6)) TNil)))))))) TNil))) TNil))))
def T__law_number_2 : TDS := TSeq (TIfS (TAnd (TB (TOp (rdCmp fun i j => decide (j < i)) (TVar 1) (TC (.int 0)))) (TB (TOp rdEq (TVar 2) (TC (.int 1))))) (TRet (TCall sp__law_low [false, false] (TCons (TOp rdMul (TCall sp__law_pick [true, false] (TCons (TVar 0) (TCons (TLst (TCons (TC (.int 1)) (TCons (TUn rdNeg (TC (.int 1))) TNil))) TNil))) (TOp rdAdd (TCall sp__law_power [false] (TCons (TOp rdSub (TVar 1) (TC (.int 1))) TNil)) (TCall sp__law_take [true, false] (TCons (TVar 0) (TCons (TOp (rdI CPow fun i j => i ^ j.toNat) (TC (.int 10)) (TC (.int 6))) TNil))))) (TCons (TOp rdAdd (TOp rdAdd (TCall sp__law_power [false] (TCons (TOp rdSub (TVar 1) (TC (.int 2))) TNil)) (TC (.int 1))) (TCall sp__law_take [true, false] (TCons (TVar 0) (TCons (TOp (rdI CPow fun i j => i ^ j.toNat) (TC (.int 10)) (TC (.int 6))) TNil)))) TNil)))) TNext)
    (T__law_number_3)
def T__law_number_1 : TDS := TSeq (TIfS (TB (TOp rdEq (TVar 2) (TC (.int 0)))) (TRet (TTup (TCons (TC (.int 0)) (TCons (TC (.int 1)) TNil)))) TNext)
    (T__law_number_2)
def T__law_number : TDS := TSeq (TSet (TCall sp__law_take [true, false] (TCons (TVar 0) (TCons (TC (.int 6)) TNil))) (GName 2))
    (T__law_number_1)
def T__law_power_2 : TDS := (TRet (TVar 1))
def T__law_power_1 : TDS := TSeq (TFor (IRng1 (TCons (TVar 0) TNil)) (GName 2) (TSet (TOp rdMul (TVar 1) (TC (.int 10))) (GName 1)))
    (T__law_power_2)
def T__law_power : TDS := TSeq (TSet (TC (.int 1)) (GName 1))
    (T__law_power_1)
def T__law_great_3 : TDS := (TRet (TIf (TB (TOp (rdCmp fun i j => decide (j < i)) (TVar 1) (TC (.int 1)))) (TOp rdMul (TVar 3) (TOp rdAdd (TC (.int 3)) (TCall sp__law_take [true, false] (TCons (TVar 0) (TCons (TC (.int 90)) TNil))))) (TVar 3)))
def T__law_great_2 : TDS := TSeq (TSet (TOp rdAdd (TCall sp__law_power [false] (TCons (TOp rdSub (TVar 2) (TC (.int 1))) TNil)) (TCall sp__law_take [true, false] (TCons (TVar 0) (TCons (TOp (rdI CPow fun i j => i ^ j.toNat) (TC (.int 10)) (TC (.int 12))) TNil)))) (GName 3))
    (T__law_great_3)
def T__law_great_1 : TDS := TSeq (TSet (TOp rdIxS (TLst (TCons (TC (.int 125)) (TCons (TC (.int 250)) (TCons (TC (.int 120)) (TCons (TC (.int 40)) TNil))))) (TVar 1)) (GName 2))
    (T__law_great_2)
def T__law_great : TDS := TSeq (TSet (TCall sp__law_take [true, false] (TCons (TVar 0) (TCons (TC (.int 4)) TNil))) (GName 1))
    (T__law_great_1)
def T__law_five_4 : TDS := (TRet (TCall sp__law_mixed [true, false] (TCons (TVar 0) (TCons (TOp rdAdd (TVar 1) (TLst (TCons (TCall sp__law_pick [true, false] (TCons (TVar 0) (TCons (TVar 3) TNil))) TNil))) TNil))))
def T__law_five_3 : TDS := TSeq (TIfS (TAnd (TB (TOp (rdCmp fun i j => decide (i < j)) (TCB rdAbs (TCons (TOp rdIx (TVar 2) (TC (.int 0))) TNil)) (TCall sp__law_power [false] (TCons (TC (.int 120)) TNil)))) (TB (TOp (rdCmp fun i j => decide (i < j)) (TOp rdIx (TVar 2) (TC (.int 1))) (TCall sp__law_power [false] (TCons (TC (.int 120)) TNil))))) (TDrop (TAppend 3 (TCons (TCall sp__law_low [false, false] (TCons (TOp rdAdd (TOp rdMul (TOp rdIx (TVar 2) (TC (.int 0))) (TOp rdIx (TVar 2) (TC (.int 1)))) (TC (.int 1))) (TCons (TOp rdMul (TOp rdIx (TVar 2) (TC (.int 1))) (TOp rdIx (TVar 2) (TC (.int 1)))) TNil))) TNil))) TNext)
    (T__law_five_4)
def T__law_five_2 : TDS := TSeq (TSetO (TLst (TCons (TVar 2) (TCons (TVar 2) (TCons (TTup (TCons (TUn rdNeg (TOp rdIx (TVar 2) (TC (.int 0)))) (TCons (TOp rdIx (TVar 2) (TC (.int 1))) TNil))) TNil)))) 3)
    (T__law_five_3)
def T__law_five_1 : TDS := TSeq (TSet (TCall sp__law_pick [true, false] (TCons (TVar 0) (TCons (TVar 1) TNil))) (GName 2))
    (T__law_five_2)
def T__law_five : TDS := TSeq (TSet (TLst (TCons (TCall sp__law_number [true, false] (TCons (TVar 0) (TCons (TC (.int 0)) TNil))) (TCons (TCall sp__law_low [false, false] (TCons (TOp rdMul (TCall sp__law_pick [true, false] (TCons (TVar 0) (TCons (TLst (TCons (TC (.int 1)) (TCons (TUn rdNeg (TC (.int 1))) TNil))) TNil))) (TCall sp__law_great [true] (TCons (TVar 0) TNil))) (TCons (TCall sp__law_great [true] (TCons (TVar 0) TNil)) TNil))) (TCons (TCall sp__law_low [false, false] (TCons (TCall sp__law_great [true] (TCons (TVar 0) TNil)) (TCons (TC (.int 7)) TNil))) (TCons (TCall sp__law_pick [true, false] (TCons (TVar 0) (TCons (TLst (TCons (TTup (TCons (TC (.int 0)) (TCons (TC (.int 1)) TNil))) (TCons (TTup (TCons (TC (.int 1)) (TCons (TC (.int 1)) TNil))) (TCons (TTup (TCons (TUn rdNeg (TC (.int 1))) (TCons (TC (.int 1)) TNil))) TNil)))) TNil))) TNil))))) (GName 1))
    (T__law_five_1)
def T__law_two_right_7 : TDS := (TRet (TAndV (TOp rdEq (TCB rdLen (TCons (TLc (ISeq (TVar 6)) (GName 7) (TB (TOp rdIs (TVar 7) (TC (.bl true)))) (TVar 7) [7]) TNil)) (TC (.int 1))) (TCall sp__law_same [false, false] (TCons (TCallN 0 1 [0] sp_is_fraction TNil (TCons (TOp rdIx (TVar 3) (TC (.int 0))) TNil)) (TCons (TC (.bl true)) TNil)))))
def T__law_two_right_6 : TDS := TSeq (TSet (TLst (TCons (TOp rdIx (TVar 3) (TC (.int 3))) (TCons (TCall sp_below [false, false] (TCons (TVar 1) (TCons (TVar 0) TNil))) (TCons (TOp rdEq (TVar 0) (TVar 1)) TNil)))) (GName 6))
    (T__law_two_right_7)
def T__law_two_right_5 : TDS := TSeq (TIfS (TOr (TNot (TTru (TCall sp__law_same [false, false] (TCons (TVar 4) (TCons (TVar 5) TNil))))) (TAnd (TB (TOp rdNe (TOp rdIx (TVar 1) (TC (.int 0))) (TC (.int 0)))) (TNot (TTru (TCall sp__law_same [false, false] (TCons (TCall sp_over [false, false] (TCons (TCall sp_times [false, false] (TCons (TVar 0) (TCons (TVar 1) TNil))) (TCons (TVar 1) TNil))) (TCons (TVar 0) TNil))))))) (TRet (TC (.bl false))) TNext)
    (T__law_two_right_6)
def T__law_two_right_4 : TDS := TSeq (TSet (TLst (TCons (TVar 0) (TCons (TOp rdIx (TVar 3) (TC (.int 0))) (TCons (TOp rdIx (TVar 3) (TC (.int 2))) (TCons (TTup (TCons (TUn rdNeg (TOp rdIx (TOp rdIx (TVar 3) (TC (.int 1))) (TC (.int 0)))) (TCons (TOp rdIx (TOp rdIx (TVar 3) (TC (.int 1))) (TC (.int 1))) TNil))) TNil))))) (GName 5))
    (T__law_two_right_5)
def T__law_two_right_3 : TDS := TSeq (TSet (TLst (TCons (TCall sp_minus [false, false] (TCons (TOp rdIx (TVar 3) (TC (.int 0))) (TCons (TVar 1) TNil))) (TCons (TCall sp_plus [false, false] (TCons (TVar 1) (TCons (TVar 0) TNil))) (TCons (TCallN 0 2 [0, 1] sp_times TNil (TCons (TVar 1) (TCons (TVar 0) TNil))) (TCons (TCall sp_minus [false, false] (TCons (TVar 1) (TCons (TVar 0) TNil))) TNil))))) (GName 4))
    (T__law_two_right_4)
def T__law_two_right_2 : TDS := TSeq (TIfS (TAnd (TB (TOp rdNe (TOp rdIx (TVar 1) (TC (.int 0))) (TC (.int 0)))) (TNot (TTru (TCall sp__law_same [false, false] (TCons (TIf (TTru (TVar 2)) (TCallN 0 2 [1, 0] sp_over TNil (TCons (TVar 1) (TCons (TVar 0) TNil))) (TCall sp_over [false, false] (TCons (TVar 0) (TCons (TVar 1) TNil)))) (TCons (TCall sp__law_over [false, false] (TCons (TVar 0) (TCons (TVar 1) TNil))) TNil)))))) (TRet (TC (.bl false))) TNext)
    (T__law_two_right_3)
def T__law_two_right_1 : TDS := TSeq (TIfS (TNot (TTru (TCall sp__law_same [false, false] (TCons (TVar 3) (TCons (TLst (TCons (TCall sp__law_plus [false, false] (TCons (TVar 0) (TCons (TVar 1) TNil))) (TCons (TCall sp__law_minus [false, false] (TCons (TVar 0) (TCons (TVar 1) TNil))) (TCons (TCall sp__law_times [false, false] (TCons (TVar 0) (TCons (TVar 1) TNil))) (TCons (TCall sp__law_less [false, false] (TCons (TVar 0) (TCons (TVar 1) TNil))) TNil))))) TNil))))) (TRet (TC (.bl false))) TNext)
    (T__law_two_right_2)
def T__law_two_right : TDS := TSeq (TIfS (TTru (TVar 2)) (TSet (TLst (TCons (TCallN 0 2 [1, 0] sp_plus TNil (TCons (TVar 1) (TCons (TVar 0) TNil))) (TCons (TCall sp_minus [false, false] (TCons (TVar 0) (TCons (TVar 1) TNil))) (TCons (TCallN 0 2 [1, 0] sp_times TNil (TCons (TVar 1) (TCons (TVar 0) TNil))) (TCons (TCall sp_below [false, false] (TCons (TVar 0) (TCons (TVar 1) TNil))) TNil))))) (GName 3)) (TSet (TLst (TCons (TCall sp_plus [false, false] (TCons (TVar 0) (TCons (TVar 1) TNil))) (TCons (TCallN 0 2 [1, 0] sp_minus TNil (TCons (TVar 1) (TCons (TVar 0) TNil))) (TCons (TCall sp_times [false, false] (TCons (TVar 0) (TCons (TVar 1) TNil))) (TCons (TCallN 0 2 [1, 0] sp_below TNil (TCons (TVar 1) (TCons (TVar 0) TNil))) TNil))))) (GName 3)))
    (T__law_two_right_1)
def T__law_three_right_5 : TDS := (TRet (TOrV (TNotV (TOp (rdCmp fun i j => decide (j < i)) (TOp rdIx (TVar 2) (TC (.int 0))) (TC (.int 0)))) (TCall sp__law_same [false, false] (TCons (TLst (TCons (TCall sp_below [false, false] (TCons (TCall sp_times [false, false] (TCons (TVar 0) (TCons (TVar 2) TNil))) (TCons (TCall sp_times [false, false] (TCons (TVar 1) (TCons (TVar 2) TNil))) TNil))) (TCons (TCall sp_below [false, false] (TCons (TCall sp_plus [false, false] (TCons (TVar 0) (TCons (TVar 2) TNil))) (TCons (TCall sp_plus [false, false] (TCons (TVar 1) (TCons (TVar 2) TNil))) TNil))) TNil))) (TCons (TOp rdMul (TLst (TCons (TCall sp__law_less [false, false] (TCons (TVar 0) (TCons (TVar 1) TNil))) TNil)) (TC (.int 2))) TNil)))))
def T__law_three_right_4 : TDS := TSeq (TIfS (TAnd (TTru (TCall sp_below [false, false] (TCons (TVar 0) (TCons (TVar 1) TNil)))) (TAnd (TTru (TCall sp_below [false, false] (TCons (TVar 1) (TCons (TVar 2) TNil)))) (TB (TOp rdNot (TCall sp_below [false, false] (TCons (TVar 0) (TCons (TVar 2) TNil))) (TC (.bl true)))))) (TRet (TC (.bl false))) TNext)
    (T__law_three_right_5)
def T__law_three_right_3 : TDS := TSeq (TIfS (TOr (TNot (TTru (TCall sp__law_same [false, false] (TCons (TVar 4) (TCons (TVar 6) TNil))))) (TNot (TTru (TCall sp__law_same [false, false] (TCons (TVar 5) (TCons (TVar 6) TNil)))))) (TRet (TC (.bl false))) TNext)
    (T__law_three_right_4)
def T__law_three_right_2 : TDS := TSeq (TSet (TLst (TCons (TCall sp__law_sum [false] (TCons (TLst (TCons (TVar 0) (TCons (TVar 1) (TCons (TVar 2) TNil)))) TNil)) (TCons (TCall sp__law_times [false, false] (TCons (TCall sp__law_times [false, false] (TCons (TVar 0) (TCons (TVar 1) TNil))) (TCons (TVar 2) TNil))) (TCons (TCall sp__law_times [false, false] (TCons (TCall sp__law_plus [false, false] (TCons (TVar 0) (TCons (TVar 1) TNil))) (TCons (TVar 2) TNil))) (TCons (TCall sp__law_minus [false, false] (TCons (TVar 0) (TCons (TCall sp__law_plus [false, false] (TCons (TVar 1) (TCons (TVar 2) TNil))) TNil))) TNil))))) (GName 6))
    (T__law_three_right_3)
def T__law_three_right_1 : TDS := TSeq (TSet (TLst (TCons (TCall sp_plus [false, false] (TCons (TVar 0) (TCons (TCall sp_plus [false, false] (TCons (TVar 1) (TCons (TVar 2) TNil))) TNil))) (TCons (TCallN 0 2 [1, 0] sp_times TNil (TCons (TCall sp_times [false, false] (TCons (TVar 1) (TCons (TVar 2) TNil))) (TCons (TVar 0) TNil))) (TCons (TCall sp_plus [false, false] (TCons (TCall sp_times [false, false] (TCons (TVar 0) (TCons (TVar 2) TNil))) (TCons (TCall sp_times [false, false] (TCons (TVar 1) (TCons (TVar 2) TNil))) TNil))) (TCons (TCallN 0 2 [1, 0] sp_minus TNil (TCons (TCall sp_plus [false, false] (TCons (TVar 1) (TCons (TVar 2) TNil))) (TCons (TVar 0) TNil))) TNil))))) (GName 5))
    (T__law_three_right_2)
def T__law_three_right : TDS := TSeq (TSet (TLst (TCons (TCall sp_plus [false, false] (TCons (TCall sp_plus [false, false] (TCons (TVar 0) (TCons (TVar 1) TNil))) (TCons (TVar 2) TNil))) (TCons (TCall sp_times [false, false] (TCons (TCall sp_times [false, false] (TCons (TVar 0) (TCons (TVar 1) TNil))) (TCons (TVar 2) TNil))) (TCons (TCall sp_times [false, false] (TCons (TCall sp_plus [false, false] (TCons (TVar 0) (TCons (TVar 1) TNil))) (TCons (TVar 2) TNil))) (TCons (TCall sp_minus [false, false] (TCons (TCall sp_minus [false, false] (TCons (TVar 0) (TCons (TVar 1) TNil))) (TCons (TVar 2) TNil))) TNil))))) (GName 4))
    (T__law_three_right_1)
def T__law_rows_right_5 : TDS := (TRet (TCall sp__law_same [false, false] (TCons (TLst (TCons (TVar 7) (TCons (TVar 8) TNil))) (TCons (TLst (TCons (TTup (TCons (TVar 6) (TCons (TOp rdAdd (TVar 6) (TC (.int 1))) TNil))) (TCons (TTup (TCons (TC (.int 1)) (TCons (TOp rdAdd (TVar 6) (TC (.int 1))) TNil))) TNil))) TNil))))
def T__law_rows_right_4 : TDS := TSeq (TFor (IRng2 (TCons (TC (.int 1)) (TCons (TOp rdAdd (TVar 6) (TC (.int 1))) TNil))) (GName 9) (TSeq (TSet (TIf (TTru (TVar 2)) (TCallN 0 2 [1, 0] sp_plus TNil (TCons (TCallN 0 2 [1, 0] sp_fraction TNil (TCons (TOp rdMul (TVar 9) (TOp rdAdd (TVar 9) (TC (.int 1)))) (TCons (TC (.int 1)) TNil))) (TCons (TVar 7) TNil))) (TCall sp_plus [false, false] (TCons (TVar 7) (TCons (TCall sp_fraction [false, false] (TCons (TC (.int 1)) (TCons (TOp rdMul (TVar 9) (TOp rdAdd (TVar 9) (TC (.int 1)))) TNil))) TNil)))) (GName 7))
    (TSet (TCall sp_times [false, false] (TCons (TVar 8) (TCons (TCall sp_fraction [false, false] (TCons (TVar 9) (TCons (TOp rdAdd (TVar 9) (TC (.int 1))) TNil))) TNil))) (GName 8))))
    (T__law_rows_right_5)
def T__law_rows_right_3 : TDS := TSeq (TPar3 6 7 8 false false false (TCons (TOp rdAdd (TC (.int 2)) (TCall sp__law_take [true, false] (TCons (TVar 0) (TCons (TC (.int 39)) TNil)))) (TCons (TTup (TCons (TC (.int 0)) (TCons (TC (.int 1)) TNil))) (TCons (TTup (TCons (TC (.int 1)) (TCons (TC (.int 1)) TNil))) TNil))))
    (T__law_rows_right_4)
def T__law_rows_right_2 : TDS := TSeq (TIfS (TB (TOp rdNe (TLc (IRng2 (TCons (TC (.int 1)) (TCons (TCB rdLen (TCons (TVar 3) TNil)) TNil))) (GName 9) (TTru (TCall sp__law_less [false, false] (TCons (TOp rdIxS (TVar 3) (TVar 9)) (TCons (TOp rdIxS (TVar 3) (TOp rdSub (TVar 9) (TC (.int 1)))) TNil)))) (TVar 9) [9]) (TLst TNil))) (TRet (TC (.bl false))) TNext)
    (T__law_rows_right_3)
def T__law_rows_right_1 : TDS := TSeq (TFor (ISeq (TVar 1)) (GName 4) (TSeq (TSet (TCB rdLen (TCons (TLc (ISeq (TVar 3)) (GName 10) (TTru (TCall sp_below [false, false] (TCons (TVar 10) (TCons (TVar 4) TNil)))) (TVar 10) [10]) TNil)) (GName 5))
    (TSet (TOp rdAdd (TOp rdAdd (TSl (TVar 3) TNoPart (TPart (TVar 5))) (TLst (TCons (TVar 4) TNil))) (TSl (TVar 3) (TPart (TVar 5)) TNoPart)) (GName 3))))
    (T__law_rows_right_2)
def T__law_rows_right : TDS := TSeq (TSet (TLst TNil) (GName 3))
    (T__law_rows_right_1)
def T__law_made_right_1 : TDS := (TRet (TC (.bl true)))
def T__law_made_right : TDS := TSeq (TFor (IRng1 (TCons (TC (.int 4)) TNil)) (GName 2) (TSeq (TSet (TOp rdAdd (TCall sp__law_power [false] (TCons (TCall sp__law_pick [true, false] (TCons (TVar 0) (TCons (TLst (TCons (TC (.int 1)) (TCons (TC (.int 40)) (TCons (TC (.int 120)) TNil)))) TNil))) TNil)) (TCall sp__law_take [true, false] (TCons (TVar 0) (TCons (TOp (rdI CPow fun i j => i ^ j.toNat) (TC (.int 10)) (TC (.int 6))) TNil)))) (GName 3))
    (TSeq (TPar 4 5 false false (TCons (TOp rdMul (TCall sp__law_pick [true, false] (TCons (TVar 0) (TCons (TLst (TCons (TC (.int 1)) (TCons (TUn rdNeg (TC (.int 1))) TNil))) TNil))) (TCall sp__law_take [true, false] (TCons (TVar 0) (TCons (TOp (rdI CPow fun i j => i ^ j.toNat) (TC (.int 10)) (TC (.int 9))) TNil)))) (TCons (TOp rdMul (TCall sp__law_pick [true, false] (TCons (TVar 0) (TCons (TLst (TCons (TC (.int 1)) (TCons (TUn rdNeg (TC (.int 1))) TNil))) TNil))) (TOp rdAdd (TC (.int 1)) (TCall sp__law_take [true, false] (TCons (TVar 0) (TCons (TOp (rdI CPow fun i j => i ^ j.toNat) (TC (.int 10)) (TC (.int 9))) TNil))))) TNil)))
    (TSeq (TSet (TIf (TTru (TVar 1)) (TCallN 0 2 [1, 0] sp_fraction TNil (TCons (TOp rdMul (TVar 5) (TVar 3)) (TCons (TOp rdMul (TVar 4) (TVar 3)) TNil))) (TCall sp_fraction [false, false] (TCons (TOp rdMul (TVar 4) (TVar 3)) (TCons (TOp rdMul (TVar 5) (TVar 3)) TNil)))) (GName 6))
    (TSeq (TIfS (TOr (TNot (TTru (TCall sp__law_same [false, false] (TCons (TVar 6) (TCons (TCall sp__law_low [false, false] (TCons (TVar 4) (TCons (TVar 5) TNil))) TNil))))) (TOr (TNot (TTru (TCall sp__law_same [false, false] (TCons (TCall sp_fraction [false, false] (TCons (TC (.int 0)) (TCons (TOp rdMul (TVar 5) (TVar 3)) TNil))) (TCons (TTup (TCons (TC (.int 0)) (TCons (TC (.int 1)) TNil))) TNil))))) (TNot (TTru (TCall sp__law_same [false, false] (TCons (TCall sp_fraction [false, false] (TCons (TUn rdNeg (TVar 3)) (TCons (TVar 3) TNil))) (TCons (TTup (TCons (TUn rdNeg (TC (.int 1))) (TCons (TC (.int 1)) TNil))) TNil))))))) (TRet (TC (.bl false))) TNext)
    (TSet (TNotV (TVar 1)) (GName 1)))))))
    (T__law_made_right_1)
def T_law_1 : TDS := (TRet (TC (.bl true)))
def T_law : TDS := TSeq (TFor (IRng1 (TCons (TCB (rdII maxI) (TCons (TC (.int 2)) (TCons (TCB (rdII minI) (TCons (TC (.int 4)) (TCons (TCB rdLen (TCons (TVar 0) TNil)) TNil))) TNil))) TNil)) (GName 1) (TSeq (TSetO (TCall sp__law_box [false] (TCons (TCall sp__law_cell [false, false] (TCons (TVar 0) (TCons (TVar 1) TNil))) TNil)) 2)
    (TSeq (TPar 3 4 false false (TCons (TOp rdEq (TCall sp__law_take [true, false] (TCons (TVar 2) (TCons (TC (.int 2)) TNil))) (TC (.int 0))) (TCons (TCall sp__law_five [true] (TCons (TVar 2) TNil)) TNil)))
    (TSeq (TFor (ISeq (TVar 4)) (GName 5) (TFor (ISeq (TSl (TCall sp__law_mixed [true, false] (TCons (TVar 2) (TCons (TVar 4) TNil))) TNoPart (TPart (TC (.int 3))))) (GName 6) (TSeq (TIfS (TNot (TTru (TCall sp__law_two_right [false, false, false] (TCons (TVar 5) (TCons (TVar 6) (TCons (TVar 3) TNil)))))) (TRet (TC (.bl false))) TNext)
    (TSet (TNotV (TVar 3)) (GName 3)))))
    (TSeq (TFor (IRng1 (TCons (TC (.int 4)) TNil)) (GName 7) (TSeq (TSet (TSl (TCall sp__law_mixed [true, false] (TCons (TVar 2) (TCons (TVar 4) TNil))) TNoPart (TPart (TC (.int 3)))) (GAny 3 (GCons (GName 5) (GCons (GName 6) (GCons (GName 8) GNil)))))
    (TIfS (TNot (TTru (TCall sp__law_three_right [false, false, false, false] (TCons (TVar 5) (TCons (TVar 6) (TCons (TVar 8) (TCons (TVar 3) TNil))))))) (TRet (TC (.bl false))) TNext)))
    (TIfS (TOr (TNot (TTru (TCall sp__law_rows_right [true, false, false] (TCons (TVar 2) (TCons (TVar 4) (TCons (TVar 3) TNil)))))) (TNot (TTru (TCall sp__law_made_right [true, false] (TCons (TVar 2) (TCons (TNotV (TVar 3)) TNil)))))) (TRet (TC (.bl false))) TNext))))))
    (T_law_1)

theorem idx_nat {l : List D} {i : Int} (h0 : 0 ≤ i) (h : i < l.length) : ∃ d, idx l i = some d ∧ l[i.toNat]? = some d ∧ d ∈ l := by
  obtain ⟨n, rfl⟩ := Int.eq_ofNat_of_zero_le h0
  have hn : n < l.length := by omega
  refine ⟨l[n], ?_, ?_, List.getElem_mem hn⟩
  · show l[n]? = some l[n]
    rw [List.getElem?_eq_getElem hn]
  · rw [Int.toNat_natCast, List.getElem?_eq_getElem hn]
theorem idx_of {l : List D} {n : Nat} {d : D} (h : l[n]? = some d) : idx l ((n : Nat) : Int) = some d := h
theorem ixN_nat {n : Nat} {i : Int} (h0 : 0 ≤ i) (h : i < n) : ixN n i = some i.toNat := by
  unfold ixN
  rw [if_pos h0, if_pos h]
theorem rd__law_cell : ∀ ws q, sp__law_cell ws q → T__law_cell (endsE ws q) (start0 2 ws) := by
  rintro ws q ⟨⟨ns, k⟩, rfl, ⟨h0, h1⟩, hq⟩
  refine brD (fun h => ?_) fun h => ?_
  · obtain ⟨d, e1, e2, e3⟩ := idx_nat (l := ns.map D.int) h0 h
    obtain ⟨i, _, rfl⟩ := List.mem_map.mp e3
    exact ⟨_, _, _, rfl, rfl, e1, hq i trivial⟩
  · have h1 : k < 2 ^ 32 := h1
    refine ⟨Sm.cmul (n := 20) (m := 40) (.of (by decide)) (.nn h0 h1 (by decide)), ?_⟩
    refine ⟨_, (ns.drop (HT.sIx (ns.map D.int).length 0 none)).take (HT.sIx (ns.map D.int).length (ns.map D.int).length (some 1) - HT.sIx (ns.map D.int).length 0 none), rfl, ?_, ?_⟩
    · unfold cutD
      rw [List.map_take, List.map_drop]
    · exact ⟨by show (0 : Int) < 1000003; decide, hq _ trivial⟩
theorem rd__law_box : ∀ ws q, sp__law_box ws q → T__law_box (endsE ws q) (start0 1 ws) := by
  rintro ws q ⟨g, rfl, _, hq⟩
  refine ⟨⟨by decide, by decide, by decide⟩, ⟨by show (0 : Int) < 2147483629; decide, ?_⟩⟩
  have h0 : 0 ≤ (if g < 0 then -g else g) := by split <;> omega
  exact hq ⟨(if g < 0 then -g else g), decide _, (if g < 0 then -g else g) % 2147483629, 0⟩ ⟨h0, Int.emod_nonneg _ (by decide), Int.emod_lt_of_pos _ (by decide), Int.le_refl _, Int.le_refl _⟩
theorem fdiv_nn {a k : Int} (h : 0 ≤ a) (hk : 0 < k) : 0 ≤ a.fdiv k := by
  rw [Int.fdiv_eq_ediv_of_nonneg _ (by omega)]
  exact Int.ediv_nonneg h (by omega)
theorem rd__law_take : ∀ ws q, sp__law_take ws q → T__law_take (endsE ws q) (start0 4 ws) := by
  rintro ws q ⟨⟨b, c, k⟩, rfl, ⟨⟨hb, hc⟩, ⟨k0, k1⟩⟩, hq⟩
  have hc : c + 1 ≤ 1000000 := hc
  have k0 : 0 < k := k0
  have k1 : k < 2 ^ 62 := k1
  obtain ⟨n, g, m, z⟩ := b
  obtain ⟨n0, m0, m1, c0, c1⟩ := hb
  have n0 : 0 ≤ n := n0
  have m0 : 0 ≤ m := m0
  have m1 : m < 2147483629 := m1
  have c0 : 0 ≤ z := c0
  have c1 : z ≤ (c : Int) := c1
  have smk : Sm 62 k := .nn (by omega) k1 (by decide)
  have e64 : (2 : Nat) ^ 64 = 18446744073709551616 := by decide
  have big : T__law_take_1 (endsE ([oX ⟨n, g, m, z⟩, oI k]) q) (start0 4 ([oX ⟨n, g, m, z⟩, oI k])) := by
    have sz : Sm 20 (z + 1) := .nn (j := 1000001) (by omega) (by omega) (by decide)
    have key : ∀ x : Int, CMulW (x % 2147483647) 48271 ∧ CMulW 6397 (z + 1) ∧ CPow (x % 2147483647 * 48271 + 6397 * (z + 1)) 3 := fun x => by
      have r0 := Int.emod_nonneg x (show (2147483647 : Int) ≠ 0 by decide)
      have r1 := Int.emod_lt_of_pos x (show (0 : Int) < 2147483647 by decide)
      refine ⟨Sm.cmul (n := 31) (m := 20) (.nn r0 r1 (by decide)) (.of (by decide)), Sm.cmul (n := 20) (.of (by decide)) sz, by decide, by decide, ?_⟩
      omega
    refine ⟨Sm.cmul (n := 30) (.of (by decide)) sz, ⟨by decide, by decide, ?_⟩, by show (0 : Int) < 2147483647; decide, ?_⟩
    · show (m + 15488005 * (z + 1) + 179432103).natAbs < 2 ^ 64
      omega
    refine ⟨(key _).1, (key 0).2.1, (key _).2.2, by show (0 : Int) < 2147483587; decide, ⟨by decide, by decide⟩, k0, ?_⟩
    exact hq (⟨n, g, m, z + 1⟩, _) ⟨⟨n0, m0, m1, by show 0 ≤ z + 1; omega, by show z + 1 ≤ ((c + 1 : Nat) : Int); omega⟩, Int.emod_nonneg _ (by omega), Int.emod_lt_of_pos _ k0⟩
  refine brI (fun hg => ?_) (fun hg => big)
  refine brD (fun hn => ?_) (fun hn => big)
  refine ⟨k0, ⟨smk.cdiv (by omega), ?_⟩⟩
  exact hq (⟨n.fdiv k, g, m, z⟩, n % k) ⟨⟨fdiv_nn n0 k0, m0, m1, c0, by show z ≤ ((c + 1 : Nat) : Int); omega⟩, Int.emod_nonneg _ (by omega), Int.emod_lt_of_pos _ k0⟩
theorem rd__law_pick : ∀ ws q, sp__law_pick ws q → T__law_pick (endsE ws q) (start0 2 ws) := by
  rintro ws q ⟨⟨b, c, d, l⟩, rfl, ⟨⟨hb, hc⟩, ⟨hl, ne, l1⟩⟩, hq⟩
  have ne : l ≠ [] := ne
  have hl : seqOf d = some l := hl
  have l1 : l.length < 2 ^ 20 := l1
  have l0 : 0 < l.length := List.length_pos_iff.mpr ne
  have e20 : (2 : Nat) ^ 20 = 1048576 := by decide
  have e62 : (2 : Int) ^ 62 = 4611686018427387904 := by decide
  have fin : ∀ (d : D), seqOf d = some l → ∀ r : Bx × Int, Bk (c + 1) r.1 ∧ 0 ≤ r.2 ∧ r.2 < (l.length : Int) → (∀ x : Bx × D, Bk (c + 1) x.1 ∧ x.2 ∈ l → q (.imm x.2) (bxl x.1)) →
      ∃ l' i d', seqOf d = some l' ∧ D.int r.2 = .int i ∧ idx l' i = some d' ∧ q (.imm d') (bxl r.1) := fun d hd r hr hq => by
    obtain ⟨x, e1, e2, e3⟩ := idx_nat hr.2.1 hr.2.2
    exact ⟨l, r.2, x, hd, rfl, e1, hq (r.1, x) ⟨hr.1, e3⟩⟩
  cases d with
  | tup l' =>
    cases hl
    exact ask ⟨(b, c, _), rfl, ⟨⟨hb, hc⟩, by show (0 : Int) < (l.length : Int); omega, by show (l.length : Int) < 2 ^ 62; omega⟩, fun r hr => fin _ rfl r hr hq⟩
  | lst l' =>
    cases hl
    exact ask ⟨(b, c, _), rfl, ⟨⟨hb, hc⟩, by show (0 : Int) < (l.length : Int); omega, by show (l.length : Int) < 2 ^ 62; omega⟩, fun r hr => fin _ rfl r hr hq⟩
  | fz l' =>
    cases hl
    exact ask ⟨(b, c, _), rfl, ⟨⟨hb, hc⟩, by show (0 : Int) < (l.length : Int); omega, by show (l.length : Int) < 2 ^ 62; omega⟩, fun r hr => fin _ rfl r hr hq⟩
  | _ => cases hl
theorem erase_perm {α : Type} : ∀ {l : List α} {i : Nat} (h : i < l.length), ([l[i]] ++ l.eraseIdx i).Perm l
  | x :: l, 0, _ => .refl _
  | x :: l, i + 1, h => by
    have h' : i < l.length := by simpa using h
    have := erase_perm h'
    show (l[i] :: x :: l.eraseIdx i).Perm (x :: l)
    exact (List.Perm.swap _ _ _).trans (this.cons x)
theorem mixed_loop {l : List D} {b : Bx} {c : Nat} {d : D} {q : W → List D → Prop} (hb : Bk c b) (hc : c + l.length ≤ lineC) (hl : l.length ≤ 1000)
    (hq : ∀ r : Bx × List D, Bk (c + l.length) r.1 ∧ r.2.Perm l → q (.own none r.2) (bxl r.1)) :
    (∃ I : Nat → DSt → Prop, I 0 [some (.own (some 0) (bxl b)), some (.imm d), some (.own none l), some (.own none []), none] ∧
      (∀ j dj δ2, (rngD 0 ((l.length : Nat) : Int).toNat)[j]? = some dj → I j δ2 → GName 4 dj δ2 fun δ3 => TDrop (TAppend 3 (TCons (TPopAt 2 (TCons (TCall sp__law_take [true, false] (TCons (TVar 0) (TCons (TCB rdLen (TCons (TVar 2) TNil)) TNil))) TNil)) TNil))
        { nx := I (j + 1), rt := rtE [oX b, .imm d] q, bk := T__law_mixed_2 (endsE [oX b, .imm d] q), ct := I (j + 1) } δ3) ∧
      ∀ δ2, I (rngD 0 ((l.length : Nat) : Int).toNat).length δ2 → T__law_mixed_2 (endsE [oX b, .imm d] q) δ2) := by
  refine ⟨fun j δ => ∃ b' left found x4, δ = [some (.own (some 0) (bxl b')), some (.imm d), some (.own none left), some (.own none found), x4] ∧ Bk (c + j) b' ∧ (found ++ left).Perm l ∧ found.length = j, ?_, ?_, ?_⟩
  · exact ⟨b, l, [], none, rfl, hb, by rw [List.nil_append], rfl⟩
  · rintro j dj _ hj ⟨b', left, found, x4, rfl, hb', hp, hf⟩
    obtain ⟨hj, rfl⟩ := rngD_get' hj
    rw [Int.toNat_natCast] at hj
    have hlen := hp.length_eq
    rw [List.length_append] at hlen
    have hleft : 0 < left.length := by omega
    refine ask ⟨(b', c + j, (left.length : Int)), rfl, ⟨⟨hb', by show c + j + 1 ≤ lineC; omega⟩, by show (0 : Int) < left.length; omega, by
      have e62 : (2 : Int) ^ 62 = 4611686018427387904 := by decide
      show (left.length : Int) < 2 ^ 62
      omega⟩, fun r hr => ?_⟩
    obtain ⟨h1, h2, h3⟩ := hr
    have h2 : 0 ≤ r.2 := h2
    have h3 : r.2 < (left.length : Int) := h3
    have hr : r.2.toNat < left.length := by omega
    refine ⟨by show left.length ≤ 65536; omega, r.2.toNat, left[r.2.toNat], ixN_nat h2 h3, List.getElem?_eq_getElem hr, ?_⟩
    refine ⟨by show found.length < 65536; omega, ?_⟩
    refine ⟨r.1, left.eraseIdx r.2.toNat, found ++ [left[r.2.toNat]], _, rfl, h1, ?_, by rw [List.length_append, List.length_singleton, hf]⟩
    refine List.Perm.trans ?_ hp
    rw [List.append_assoc]
    refine List.Perm.append_left _ ?_
    exact erase_perm hr
  · rintro _ ⟨b', left, found, x4, rfl, hb', hp, hf⟩
    rw [rngD_len, Int.toNat_natCast] at hf hb'
    have hlen := hp.length_eq
    rw [List.length_append] at hlen
    have : left = [] := List.length_eq_zero_iff.mp (by omega)
    subst this
    rw [List.append_nil] at hp
    exact hq (b', found) ⟨hb', hp⟩
theorem rd__law_mixed : ∀ ws q, sp__law_mixed ws q → T__law_mixed (endsE ws q) (start0 5 ws) := by
  rintro ws q ⟨⟨b, c, d, l⟩, rfl, ⟨⟨hb, hc⟩, ⟨hl, l1⟩⟩, hq⟩
  have l1 : l.length ≤ 1000 := l1
  have hl : seqOf d = some l := hl
  have e62 : (2 : Int) ^ 62 = 4611686018427387904 := by decide
  cases d with
  | tup l' =>
    cases hl
    exact ⟨⟨by show -(2 ^ 62) ≤ (l.length : Int); omega, by show (l.length : Int) < 2 ^ 62; omega⟩, mixed_loop hb hc l1 hq⟩
  | lst l' =>
    cases hl
    exact ⟨⟨by show -(2 ^ 62) ≤ (l.length : Int); omega, by show (l.length : Int) < 2 ^ 62; omega⟩, mixed_loop hb hc l1 hq⟩
  | fz l' =>
    cases hl
    exact ⟨⟨by show -(2 ^ 62) ≤ (l.length : Int); omega, by show (l.length : Int) < 2 ^ 62; omega⟩, mixed_loop hb hc l1 hq⟩
  | _ => cases hl
end DL

namespace DL
open PySem L2
theorem all_of {l : List D} {p : D → Bool} (h : l.all p = true) {d : D} (hd : d ∈ l) : p d = true := List.all_eq_true.mp h d hd
theorem rd_same_seq (n : Nat) (l : List D) (q : W → List D → Prop) (d : D) (hd : seqOf d = some l) (hl : l.length ≤ 1000) (ha : l.all (sameOk n) = true) (hq : q (oB true) []) :
    ∃ I : Nat → List D → DSt → Prop, I 0 [] [some (.imm d), some (.imm d), none] ∧
      (∀ j dj acc δ2, (rngD 0 ((l.length : Nat) : Int).toNat)[j]? = some dj → acc.length ≤ j → I j acc (dwipe δ2 [2]) → GName 2 dj (dwipe δ2 [2]) fun δ3 =>
        (TNot (TTru (TCall (sp_same n) [false, false] (TCons (TOp rdIxS (TVar 0) (TVar 2)) (TCons (TOp rdIxS (TVar 1) (TVar 2)) TNil))))) δ3 fun b δ4 => br b (TVar 2 δ4 fun r δ5 => match datas δ5 [r] with
          | some (e :: _, δ6) => I (j + 1) (acc ++ [e]) (dwipe δ6 [2])
          | _ => False) (I (j + 1) acc (dwipe δ4 [2]))) ∧
      ∀ acc δ2, I (rngD 0 ((l.length : Nat) : Int).toNat).length acc (dwipe δ2 [2]) → acc = [] ∧ dwipe δ2 [2] = [some (.imm d), some (.imm d), none] := by
  refine ⟨fun _ acc δ => acc = [] ∧ δ = [some (.imm d), some (.imm d), none], ⟨rfl, rfl⟩, ?_, fun acc δ2 h => h⟩
  rintro j dj acc δ2 hj _ ⟨rfl, e⟩
  obtain ⟨lt, rfl⟩ := rngD_get' hj
  rw [Int.toNat_natCast] at lt
  rw [e]
  have hx : idx l (0 + (j : Int)) = some l[j] := by
    rw [Int.zero_add]
    exact idx_of (List.getElem?_eq_getElem lt)
  refine ⟨l, _, l[j], hd, rfl, hx, ⟨l, _, l[j], hd, rfl, hx, ?_⟩⟩
  exact ask ⟨l[j], rfl, all_of ha (List.getElem_mem lt), ⟨rfl, rfl⟩⟩
theorem bnd62 {n : Nat} (h : n ≤ 65536) : -(2 ^ 62) ≤ (n : Int) ∧ (n : Int) < 2 ^ 62 := by
  have e62 : (2 : Int) ^ 62 = 4611686018427387904 := by decide
  omega
theorem rd_same : ∀ n ws q, sp_same n ws q → T__law_same (spS n) (endsE ws q) (start0 3 ws) := by
  rintro n ws q ⟨d, rfl, hd, hq⟩
  have hd : sameOk n d = true := hd
  cases d with
  | non => exact hq
  | bl b => cases b <;> exact ⟨rfl, rfl, rfl, hq⟩
  | int i =>
    refine ⟨rfl, ⟨rfl, ⟨rfl, ⟨rfl, ?_⟩⟩⟩⟩
    show q (oB (decide (i - i = 0))) []
    rw [Int.sub_self]
    exact hq
  | str x => cases n <;> cases hd
  | fz l => cases n <;> cases hd
  | ty t => cases n <;> cases hd
  | tup l =>
    cases n with
    | zero => cases hd
    | succ n =>
      have hd : (Nat.ble l.length 1000 && l.all (sameOk n)) = true := hd
      rw [Bool.and_eq_true] at hd
      have hl : l.length ≤ 1000 := Nat.le_of_ble_eq_true hd.1
      refine ⟨rfl, ⟨rfl, ⟨rfl, ⟨rfl, ⟨rfl, ⟨rfl, ⟨rfl, ⟨rfl, ⟨rfl, ?_⟩⟩⟩⟩⟩⟩⟩⟩⟩
      refine brD (fun _ => ?_) fun h => absurd rfl h
      refine ⟨bnd62 (by omega), by rw [rngD_len]; show ((l.length : Nat) : Int).toNat ≤ 65536; rw [Int.toNat_natCast]; omega, ?_⟩
      obtain ⟨I, h0, hs, he⟩ := rd_same_seq n l q (.tup l) rfl hl hd.2 hq
      refine ⟨I, h0, hs, fun acc δ2 hI => ?_⟩
      obtain ⟨rfl, e⟩ := he acc δ2 hI
      rw [e]
      exact ⟨rfl, hq⟩
  | lst l =>
    cases n with
    | zero => cases hd
    | succ n =>
      have hd : (Nat.ble l.length 1000 && l.all (sameOk n)) = true := hd
      rw [Bool.and_eq_true] at hd
      have hl : l.length ≤ 1000 := Nat.le_of_ble_eq_true hd.1
      refine ⟨rfl, ⟨rfl, ⟨rfl, ⟨rfl, ⟨rfl, ⟨rfl, ⟨rfl, ⟨rfl, ⟨rfl, ?_⟩⟩⟩⟩⟩⟩⟩⟩⟩
      refine brD (fun _ => ?_) fun h => absurd rfl h
      refine ⟨bnd62 (by omega), by rw [rngD_len]; show ((l.length : Nat) : Int).toNat ≤ 65536; rw [Int.toNat_natCast]; omega, ?_⟩
      obtain ⟨I, h0, hs, he⟩ := rd_same_seq n l q (.lst l) rfl hl hd.2 hq
      refine ⟨I, h0, hs, fun acc δ2 hI => ?_⟩
      obtain ⟨rfl, e⟩ := he acc δ2 hI
      rw [e]
      exact ⟨rfl, hq⟩
end DL

namespace DL
open PySem L2
theorem gcd_step {x y : Int} (h0 : 0 ≤ x) (h1 : 0 < y) : Nat.gcd y.natAbs (x % y).natAbs = Nat.gcd x.natAbs y.natAbs := by
  obtain ⟨n, rfl⟩ := Int.eq_ofNat_of_zero_le h0
  obtain ⟨m, rfl⟩ := Int.eq_ofNat_of_zero_le (show 0 ≤ y by omega)
  have e : ((n : Int) % (m : Int)) = ((n % m : Nat) : Int) := (Int.natCast_emod n m).symm
  rw [e, Int.natAbs_natCast, Int.natAbs_natCast, Int.natAbs_natCast, Nat.gcd_comm m, ← Nat.gcd_rec, Nat.gcd_comm]
theorem rd__law_low : ∀ ws q, sp__law_low ws q → T__law_low (endsE ws q) (start0 5 ws) := by
  rintro ws q ⟨⟨t, b⟩, rfl, ⟨h0, hs, ht⟩, hq⟩
  have h0 : b ≠ 0 := h0
  have e := low_ok (t := t) h0
  have n0 := sgcd_ne (t := t) h0
  have gp := gcdI_pos (t := t) h0
  have gs : Sm 8900 (gcdI t b) := hs.le (gcdI_le h0)
  have a0 : ∀ x : Int, 0 ≤ (if x < 0 then -x else x) := fun x => by split <;> omega
  have a1 : ∀ x : Int, (if x < 0 then -x else x).natAbs = x.natAbs := fun x => by split <;> omega
  refine ⟨fun m δ => ∃ x y : Int, δ = [some (oI t), some (oI b), some (oI x), some (oI y), none] ∧ 0 ≤ x ∧ 0 ≤ y ∧ Nat.gcd x.natAbs y.natAbs = Nat.gcd t.natAbs b.natAbs ∧ m = y.natAbs, ⟨_, _, _, rfl, a0 t, a0 b, by rw [a1, a1], rfl⟩, ?_⟩
  rintro m _ ⟨x, y, rfl, x0, y0, hg, rfl⟩
  refine brD (fun hy => ?_) fun hy => ?_
  · have l1 := Int.emod_nonneg x (show y ≠ 0 by omega)
    have l2 := Int.emod_lt_of_pos x hy
    exact ⟨hy, (x % y).natAbs, by omega, y, x % y, rfl, y0, l1, by rw [gcd_step x0 hy]; exact hg, rfl⟩
  · have hy0 : y = 0 := by omega
    subst hy0
    have hx : x = gcdI t b := by
      unfold gcdI
      rw [← hg]
      show x = ((Nat.gcd x.natAbs 0 : Nat) : Int)
      rw [Nat.gcd_zero_right]
      omega
    subst hx
    refine brD (fun hb => ?_) fun hb => ?_
    · have es : sgcd t b = -gcdI t b := if_neg (by omega)
      refine ⟨Sm.cmul (n := 1) (.of (by decide)) ht, gs.cdiv (by omega), Sm.cmul (n := 1) (.of (by decide)) hs, gs.cdiv (by omega), ?_⟩
      have k : ∀ z : Int, (-1 * z).fdiv (gcdI t b) = z.fdiv (sgcd t b) := fun z => by
        rw [es, Int.neg_mul, Int.one_mul, ← Int.neg_fdiv_neg, Int.neg_neg]
      show q (.imm (.tup [.int ((-1 * t).fdiv (gcdI t b)), .int ((-1 * b).fdiv (gcdI t b))])) []
      rw [k, k, e.1, e.2]
      exact hq
    · have es : sgcd t b = gcdI t b := if_pos (by omega)
      refine ⟨Sm.cmul (n := 1) (.of (by decide)) ht, gs.cdiv (by omega), Sm.cmul (n := 1) (.of (by decide)) hs, gs.cdiv (by omega), ?_⟩
      have k : ∀ z : Int, (1 * z).fdiv (gcdI t b) = z.fdiv (sgcd t b) := fun z => by rw [es, Int.one_mul]
      show q (.imm (.tup [.int ((1 * t).fdiv (gcdI t b)), .int ((1 * b).fdiv (gcdI t b))])) []
      rw [k, k, e.1, e.2]
      exact hq
theorem rd__law_plus : ∀ ws q, sp__law_plus ws q → T__law_plus (endsE ws q) (start0 2 ws) := by
  rintro ws q ⟨⟨p, r⟩, rfl, ⟨h1, h2⟩, hq⟩
  refine ⟨h1.1.cmul h2.2, h2.1.cmul h1.2, h1.2.cmul h2.2, ?_⟩
  refine ask ⟨(_, _), rfl, ⟨Int.mul_ne_zero (den_ne p) (den_ne r), (h1.2.mul h2.2).mono (by decide), (Sm.add (h1.1.mul h2.2) (h2.1.mul h1.2)).mono (by decide)⟩, ?_⟩
  show q (oQ (Rat.divInt _ _)) []
  rw [add_ok]
  exact hq
theorem rd__law_minus : ∀ ws q, sp__law_minus ws q → T__law_minus (endsE ws q) (start0 2 ws) := by
  rintro ws q ⟨⟨p, r⟩, rfl, ⟨h1, h2⟩, hq⟩
  refine ⟨h1.1.cmul h2.2, h2.1.cmul h1.2, h1.2.cmul h2.2, ?_⟩
  refine ask ⟨(_, _), rfl, ⟨Int.mul_ne_zero (den_ne p) (den_ne r), (h1.2.mul h2.2).mono (by decide), (Sm.sub (h1.1.mul h2.2) (h2.1.mul h1.2)).mono (by decide)⟩, ?_⟩
  show q (oQ (Rat.divInt _ _)) []
  rw [sub_ok]
  exact hq
theorem rd__law_times : ∀ ws q, sp__law_times ws q → T__law_times (endsE ws q) (start0 2 ws) := by
  rintro ws q ⟨⟨p, r⟩, rfl, ⟨h1, h2⟩, hq⟩
  refine ⟨h1.1.cmul h2.1, h1.2.cmul h2.2, ?_⟩
  refine ask ⟨(_, _), rfl, ⟨Int.mul_ne_zero (den_ne p) (den_ne r), (h1.2.mul h2.2).mono (by decide), (h1.1.mul h2.1).mono (by decide)⟩, ?_⟩
  show q (oQ (Rat.divInt _ _)) []
  rw [mul_ok]
  exact hq
theorem rd__law_over : ∀ ws q, sp__law_over ws q → T__law_over (endsE ws q) (start0 2 ws) := by
  rintro ws q ⟨⟨p, r⟩, rfl, ⟨h1, h2, h3⟩, hq⟩
  refine ⟨h1.1.cmul h2.2, h1.2.cmul h2.1, ?_⟩
  refine ask ⟨(_, _), rfl, ⟨Int.mul_ne_zero (den_ne p) (num_ne h3), (h1.2.mul h2.1).mono (by decide), (h1.1.mul h2.2).mono (by decide)⟩, ?_⟩
  show q (oQ (Rat.divInt _ _)) []
  rw [div_ok p r h3]
  exact hq
theorem rd__law_less : ∀ ws q, sp__law_less ws q → T__law_less (endsE ws q) (start0 2 ws) := by
  rintro ws q ⟨⟨p, r⟩, rfl, ⟨h1, h2⟩, hq⟩
  refine ⟨h1.1.cmul h2.2, h2.1.cmul h1.2, ?_⟩
  show q (oB (decide _)) []
  rw [lt_ok]
  exact hq
theorem sumR_snoc (l : List Rat) (r : Rat) : sumR (l ++ [r]) = sumR l + r := by
  unfold sumR
  rw [List.foldl_append]
  rfl
theorem sz0 : SzR 1 0 := ⟨.of (by decide), .of (by decide)⟩
theorem rd__law_sum : ∀ ws q, sp__law_sum ws q → T__law_sum (endsE ws q) (start0 3 ws) := by
  rintro ws q ⟨⟨rs, n⟩, rfl, ⟨h1, h2⟩, hq⟩
  have h1 : ∀ r ∈ rs, SzR n r := h1
  have h2 : 1 + rs.length * (n + 1) ≤ 4400 := h2
  refine ⟨fun j δ => ∃ x2, δ = [some (.imm (oL rs)), some (oQ (sumR (rs.take j))), x2] ∧ SzR (1 + j * (n + 1)) (sumR (rs.take j)), ⟨none, rfl, by rw [Nat.zero_mul]; exact sz0⟩, ?_, ?_⟩
  · rintro j d _ hj ⟨x2, rfl, hz⟩
    rw [List.getElem?_map] at hj
    have hlt : j < rs.length := by
      rcases Nat.lt_or_ge j rs.length with h | h
      · exact h
      · rw [List.getElem?_eq_none h] at hj; cases hj
    rw [List.getElem?_eq_getElem hlt] at hj
    cases hj
    have hm := h1 _ (List.getElem_mem hlt)
    have hle : 1 + j * (n + 1) + n + 1 ≤ 4400 := by
      have : (j + 1) * (n + 1) ≤ rs.length * (n + 1) := Nat.mul_le_mul_right _ hlt
      rw [Nat.succ_mul] at this
      omega
    refine ask ⟨(_, _), rfl, ⟨hz.mono (by omega), hm.mono (by omega)⟩, ?_⟩
    have e : rs.take (j + 1) = rs.take j ++ [rs[j]] := by
      rw [List.take_add_one, List.getElem?_eq_getElem hlt]
      rfl
    refine ⟨some (oQ rs[j]), ?_, ?_⟩
    · show [some (W.imm (oL rs)), some (oQ (sumR (rs.take j) + rs[j])), some (oQ rs[j])] = _
      rw [e, sumR_snoc]
    · rw [e, sumR_snoc]
      refine (hz.add hm).mono ?_
      rw [Nat.succ_mul]
      omega
  · rintro _ ⟨x2, rfl, hz⟩
    show q (oQ (sumR (rs.take (rs.map fq).length))) []
    rw [List.length_map, List.take_length]
    exact hq
theorem sm10 : ∀ n : Nat, Sm (4 * n + 1) (p10 n)
  | 0 => by rw [p10_0]; exact .of (by decide)
  | n + 1 => by
    rw [p10_s]
    exact ((sm10 n).mul (m := 4) (.of (by decide))).mono (by omega)
theorem pow10 : ∀ n : Nat, 0 < p10 n
  | 0 => by rw [p10_0]; decide
  | n + 1 => by rw [p10_s]; have := pow10 n; omega
theorem rd__law_power : ∀ ws q, sp__law_power ws q → T__law_power (endsE ws q) (start0 3 ws) := by
  rintro ws q ⟨k, rfl, ⟨h0, h1⟩, hq⟩
  have h0 : -10 ≤ k := h0
  have h1 : k ≤ 300 := h1
  have e62 : (2 : Int) ^ 62 = 4611686018427387904 := by decide
  refine ⟨⟨by show -(2 ^ 62) ≤ k; omega, by show k < 2 ^ 62; omega⟩, fun j δ => ∃ x2, δ = [some (oI k), some (oI (p10 j)), x2], ⟨none, by rw [p10_0]⟩, ?_, ?_⟩
  · rintro j d _ hj ⟨x2, rfl⟩
    obtain ⟨lt, rfl⟩ := rngD_get' hj
    refine ⟨((sm10 j).mono (m := 2000) (by omega)).cmul (m := 4) (.of (by decide)), some (oI (0 + (j : Int))), ?_⟩
    show [some (oI k), some (oI (p10 j * 10)), some (oI (0 + (j : Int)))] = _
    rw [p10_s]
  · rintro _ ⟨x2, rfl⟩
    rw [rngD_len]
    exact hq _ rfl
end DL

namespace DL
open PySem L2
/-- the answers of a draw, taken apart -/
theorem lineC_eq : lineC = 1000000 := rfl
theorem pow6 : ((10 : Int) ^ (6 : Int).toNat) = 1000000 := by decide
theorem pow12 : ((10 : Int) ^ (12 : Int).toNat) = 1000000000000 := by decide
theorem pow9 : ((10 : Int) ^ (9 : Int).toNat) = 1000000000 := by decide
theorem take_i {b : Bx} {c : Nat} {k : Int} {q : W → List D → Prop} (hb : Bk c b) (hc : c + 1 ≤ lineC) (hk : (0 < k ∧ k < 2 ^ 62)) (h : ∀ b' r, Bk (c + 1) b' → 0 ≤ r → r < k → q (oI r) (bxl b')) : Ask sp__law_take [oX b, oI k] q :=
  ask ⟨(b, c, k), rfl, ⟨⟨hb, hc⟩, hk⟩, fun r hr => h r.1 r.2 hr.1 hr.2.1 hr.2.2⟩
theorem pick_i {b : Bx} {c : Nat} {d : D} {l : List D} {q : W → List D → Prop} (hb : Bk c b) (hc : c + 1 ≤ lineC) (hl : seqOf d = some l) (ne : l ≠ []) (h20 : l.length < 2 ^ 20) (h : ∀ b' x, Bk (c + 1) b' → x ∈ l → q (.imm x) (bxl b')) : Ask sp__law_pick [oX b, .imm d] q :=
  ask ⟨(b, c, d, l), rfl, ⟨⟨hb, hc⟩, hl, ne, h20⟩, fun r hr => h r.1 r.2 hr.1 hr.2⟩
theorem power_i {k : Int} {q : W → List D → Prop} (h0 : -10 ≤ k) (h1 : k ≤ 300) (h : ∀ r, r = p10 k.toNat → q (oI r) []) : Ask sp__law_power [oI k] q := ask ⟨k, rfl, ⟨h0, h1⟩, h⟩
theorem low_i {t b : Int} {q : W → List D → Prop} (h0 : b ≠ 0) (h1 : Sm 8900 b) (h2 : Sm 20000 t) (h : q (oQ (Rat.divInt t b)) []) : Ask sp__law_low [oI t, oI b] q := ask ⟨(t, b), rfl, ⟨h0, h1, h2⟩, h⟩
theorem rd__law_number : ∀ ws q, sp__law_number ws q → T__law_number (endsE ws q) (start0 3 ws) := by
  rintro ws q ⟨⟨b, c, g⟩, rfl, ⟨⟨hb, hc⟩, ⟨g0, g1⟩⟩, hq⟩
  have hb : Bk c b := hb
  have hc : c + 4 ≤ lineC := hc
  have g0 : 0 ≤ g := g0
  have g1 : g ≤ 60 := g1
  have hq : ∀ (b' : Bx) (r : Rat), Bk (c + 4) b' → SzR 250 r → q (oQ r) (bxl b') := fun b' r h1 h2 => hq (b', r) ⟨h1, h2⟩
  refine take_i (k := 6) hb (by omega) (by decide) fun b1 w k1 w0 w1 => ?_
  have k1 : Bk (c + 1) b1 := k1
  refine brD (fun hw => ?_) fun hw => ?_
  · exact hq b1 0 (k1.mono (by omega)) (sz0.mono (by decide))
  have last : T__law_number_3 (endsE ([oX b, oI g]) q) [some (.own (some 0) (bxl b1)), some (oI g), some (oI w)] := by
    refine take_i k1 (by omega) (by decide) fun b2 x k2 x0 x1 => ?_
    have x0 : 0 ≤ x := x0
    have x1 : x < 13 := x1
    refine pick_i (l := [.int 1, .int 1, .int 1, .int 2, .int 3, .int 4, .int 6]) k2 (by omega) rfl (by intro z; cases z) (by decide) fun b3 y k3 hy => ?_
    obtain ⟨z, rfl, z0, z1⟩ : ∃ z : Int, y = .int z ∧ 0 < z ∧ z < 7 := by
      have hy : y ∈ [D.int 1, .int 1, .int 1, .int 2, .int 3, .int 4, .int 6] := hy
      simp only [List.mem_cons, List.not_mem_nil, or_false] at hy
      rcases hy with rfl | rfl | rfl | rfl | rfl | rfl | rfl <;> exact ⟨_, rfl, by decide, by decide⟩
    have s1 : Sm 10 (x - 6) := by show (x - 6).natAbs < 2 ^ 10; have : (2 : Nat) ^ 10 = 1024 := by decide
                                  omega
    have s2 : Sm 10 z := .nn (by omega) z1 (by decide)
    refine low_i (by omega) (s2.mono (by decide)) (s1.mono (by decide)) ?_
    have := divInt_sm (show z ≠ 0 by omega) (s1.mono (m := 250) (by decide)) (s2.mono (m := 250) (by decide))
    exact hq b3 _ (Bk.mono k3 (by show c + 2 + 1 ≤ c + 4; omega)) this
  refine brD (fun hg => ?_) fun hg => last
  refine brD (fun hw1 => ?_) fun hw1 => last
  refine pick_i (l := [.int 1, .int (-1)]) k1 (by omega) rfl (by intro z; cases z) (by decide) fun b2 y k2 hy => ?_
  obtain ⟨s, rfl, s0⟩ : ∃ s : Int, y = .int s ∧ (s = 1 ∨ s = -1) := by
    have hy : y ∈ [D.int 1, .int (-1)] := hy
    simp only [List.mem_cons, List.not_mem_nil, or_false] at hy
    rcases hy with rfl | rfl
    · exact ⟨_, rfl, .inl rfl⟩
    · exact ⟨_, rfl, .inr rfl⟩
  refine power_i (by omega) (by omega) fun pa ea => ⟨⟨by decide, by decide, by decide⟩, ?_⟩
  refine take_i k2 (by omega) (by decide) fun b3 x k3 x0 x1 => ?_
  have x0 : 0 ≤ x := x0
  have x1 : x < (10 : Int) ^ (6 : Int).toNat := x1
  rw [pow6] at x1
  have sx : Sm 240 x := (Sm.nn (n := 20) x0 x1 (by decide)).mono (by decide)
  have sp1 : Sm 240 pa := by rw [ea]; exact (sm10 _).mono (by omega)
  have ss : Sm 1 s := by rcases s0 with rfl | rfl <;> exact .of (by decide)
  have su := sp1.add sx
  refine ⟨ss.cmul su, power_i (by omega) (by omega) fun pb eb => ⟨⟨by decide, by decide, by decide⟩, ?_⟩⟩
  refine take_i k3 (by omega) (by decide) fun b4 z k4 z0 z1 => ?_
  have z0 : 0 ≤ z := z0
  have z1 : z < (10 : Int) ^ (6 : Int).toNat := z1
  rw [pow6] at z1
  have sp2 : Sm 240 pb := by rw [eb]; exact (sm10 _).mono (by omega)
  have p2 : 0 < pb := by rw [eb]; exact pow10 _
  have sz : Sm 241 z := (Sm.nn (n := 20) z0 z1 (by decide)).mono (by decide)
  have sv : Sm 242 (pb + 1 + z) := (sp2.add (Sm.of (i := 1) (by decide))).add sz
  have ne : pb + 1 + z ≠ 0 := by omega
  refine low_i ne (sv.mono (by decide)) ((ss.mul su).mono (by decide)) ?_
  have := divInt_sm ne ((ss.mul su).mono (m := 250) (by decide)) (sv.mono (m := 250) (by decide))
  exact hq b4 _ (Bk.mono k4 (by show c + 3 + 1 ≤ c + 4; omega)) this
theorem rd__law_great : ∀ ws q, sp__law_great ws q → T__law_great (endsE ws q) (start0 4 ws) := by
  rintro ws q ⟨⟨b, c, _⟩, rfl, ⟨⟨hb, hc⟩, _⟩, hq⟩
  have hb : Bk c b := hb
  have hc : c + 3 ≤ lineC := hc
  have hq : ∀ (b' : Bx) (r : Int), Bk (c + 3) b' → 0 < r → Sm 1090 r → q (oI r) (bxl b') := fun b' r h1 h2 h3 => hq (b', r) ⟨h1, h2, h3⟩
  refine take_i (k := 4) hb (by omega) (by decide) fun b1 w k1 w0 w1 => ?_
  have k1 : Bk (c + 1) b1 := k1
  have w0 : 0 ≤ w := w0
  have w1 : w < 4 := w1
  obtain ⟨m, em, m0, m1⟩ : ∃ m : Int, idx [D.int 125, .int 250, .int 120, .int 40] w = some (.int m) ∧ 1 ≤ m ∧ m ≤ 250 := by
    have : w = 0 ∨ w = 1 ∨ w = 2 ∨ w = 3 := by omega
    rcases this with rfl | rfl | rfl | rfl <;> exact ⟨_, rfl, by decide, by decide⟩
  refine ⟨_, w, _, rfl, rfl, em, ?_⟩
  refine power_i (by omega) (by omega) fun pa ea => ⟨⟨by decide, by decide, by decide⟩, ?_⟩
  refine take_i k1 (by omega) (by decide) fun b2 x k2 x0 x1 => ?_
  have x0 : 0 ≤ x := x0
  have x1 : x < (10 : Int) ^ (12 : Int).toNat := x1
  rw [pow12] at x1
  have sx : Sm 1000 x := (Sm.nn (n := 40) x0 x1 (by decide)).mono (by decide)
  have sp1 : Sm 1000 pa := by rw [ea]; exact (sm10 _).mono (by omega)
  have su := sp1.add sx
  have p2 : 0 < pa := by rw [ea]; exact pow10 _
  have pos : 0 < pa + x := by omega
  refine brD (fun hw => ?_) fun hw => ?_
  · refine take_i k2 (by omega) (by decide) fun b3 y k3 y0 y1 => ?_
    have y0 : 0 ≤ y := y0
    have y1 : y < 90 := y1
    have sy : Sm 10 (3 + y) := .nn (j := 100) (by omega) (by omega) (by decide)
    exact ⟨su.cmul sy, hq b3 _ (Bk.mono k3 (by show c + 2 + 1 ≤ c + 3; omega)) (Int.mul_pos pos (by omega)) ((su.mul sy).mono (by decide))⟩
  · exact hq b2 _ (Bk.mono k2 (by show c + 1 + 1 ≤ c + 3; omega)) pos (su.mono (by decide))
end DL

namespace DL
open PySem L2
theorem plus_i {p r : Rat} {q : W → List D → Prop} (h1 : SzR 4400 p) (h2 : SzR 4400 r) (h : q (oQ (p + r)) []) : Ask sp_plus [oQ p, oQ r] q := ask ⟨(p, r), rfl, ⟨h1, h2⟩, h⟩
theorem minus_i {p r : Rat} {q : W → List D → Prop} (h1 : SzR 4400 p) (h2 : SzR 4400 r) (h : q (oQ (p - r)) []) : Ask sp_minus [oQ p, oQ r] q := ask ⟨(p, r), rfl, ⟨h1, h2⟩, h⟩
theorem times_i {p r : Rat} {q : W → List D → Prop} (h1 : SzR 4400 p) (h2 : SzR 4400 r) (h : q (oQ (p * r)) []) : Ask sp_times [oQ p, oQ r] q := ask ⟨(p, r), rfl, ⟨h1, h2⟩, h⟩
theorem over_i {p r : Rat} {q : W → List D → Prop} (h1 : SzR 4400 p) (h2 : SzR 4400 r) (h3 : r ≠ 0) (h : q (oQ (p / r)) []) : Ask sp_over [oQ p, oQ r] q := ask ⟨(p, r), rfl, ⟨h1, h2, h3⟩, h⟩
theorem below_i {p r : Rat} {q : W → List D → Prop} (h1 : SzR 4400 p) (h2 : SzR 4400 r) (h : q (oB (decide (p < r))) []) : Ask sp_below [oQ p, oQ r] q := ask ⟨(p, r), rfl, ⟨h1, h2⟩, h⟩
theorem lplus_i {p r : Rat} {q : W → List D → Prop} (h1 : SzR 4400 p) (h2 : SzR 4400 r) (h : q (oQ (p + r)) []) : Ask sp__law_plus [oQ p, oQ r] q := ask ⟨(p, r), rfl, ⟨h1, h2⟩, h⟩
theorem lminus_i {p r : Rat} {q : W → List D → Prop} (h1 : SzR 4400 p) (h2 : SzR 4400 r) (h : q (oQ (p - r)) []) : Ask sp__law_minus [oQ p, oQ r] q := ask ⟨(p, r), rfl, ⟨h1, h2⟩, h⟩
theorem ltimes_i {p r : Rat} {q : W → List D → Prop} (h1 : SzR 4400 p) (h2 : SzR 4400 r) (h : q (oQ (p * r)) []) : Ask sp__law_times [oQ p, oQ r] q := ask ⟨(p, r), rfl, ⟨h1, h2⟩, h⟩
theorem lover_i {p r : Rat} {q : W → List D → Prop} (h1 : SzR 4400 p) (h2 : SzR 4400 r) (h3 : r ≠ 0) (h : q (oQ (p / r)) []) : Ask sp__law_over [oQ p, oQ r] q := ask ⟨(p, r), rfl, ⟨h1, h2, h3⟩, h⟩
theorem lless_i {p r : Rat} {q : W → List D → Prop} (h1 : SzR 4400 p) (h2 : SzR 4400 r) (h : q (oB (decide (p < r))) []) : Ask sp__law_less [oQ p, oQ r] q := ask ⟨(p, r), rfl, ⟨h1, h2⟩, h⟩
theorem fraction_i {t b : Int} {q : W → List D → Prop} (h0 : b ≠ 0) (h1 : Sm 8900 b) (h : q (oQ (Rat.divInt t b)) []) : Ask sp_fraction [oI t, oI b] q := ask ⟨(t, b), rfl, ⟨h0, h1⟩, h⟩
theorem same_i {d e : D} {q : W → List D → Prop} (he : d = e) (h5 : sameOk 5 e = true) (h : q (oB true) []) : Ask sp__law_same [.imm d, .imm e] q := ask ⟨e, by rw [he], h5, h⟩
theorem number_i {b : Bx} {c : Nat} {g : Int} {q : W → List D → Prop} (hb : Bk c b) (hc : c + 4 ≤ lineC) (hg : 0 ≤ g ∧ g ≤ 60) (h : ∀ b' r, Bk (c + 4) b' → SzR 250 r → q (oQ r) (bxl b')) : Ask sp__law_number [oX b, oI g] q :=
  ask ⟨(b, c, g), rfl, ⟨⟨hb, hc⟩, hg⟩, fun r hr => h r.1 r.2 hr.1 hr.2⟩
theorem great_i {b : Bx} {c : Nat} {q : W → List D → Prop} (hb : Bk c b) (hc : c + 3 ≤ lineC) (h : ∀ b' r, Bk (c + 3) b' → 0 < r → Sm 1090 r → q (oI r) (bxl b')) : Ask sp__law_great [oX b] q :=
  ask ⟨(b, c, ()), rfl, ⟨⟨hb, hc⟩, trivial⟩, fun r hr => h r.1 r.2 hr.1 hr.2.1 hr.2.2⟩
theorem mixed_i {b : Bx} {c n : Nat} {d : D} {l : List D} {q : W → List D → Prop} (hb : Bk c b) (hc : c + n ≤ lineC) (hl : seqOf d = some l) (hn : l.length = n) (h20 : n ≤ 1000) (h : ∀ b' x, Bk (c + n) b' → x.Perm l → q (.own none x) (bxl b')) : Ask sp__law_mixed [oX b, .imm d] q := by
  subst hn
  exact ask ⟨(b, c, d, l), rfl, ⟨⟨hb, hc⟩, hl, h20⟩, fun r hr => h r.1 r.2 hr.1 hr.2⟩
theorem sign_of {s : D} (hy : s ∈ [D.int 1, .int (-1)]) : ∃ z : Int, s = .int z ∧ Sm 1 z := by
  simp only [List.mem_cons, List.not_mem_nil, or_false] at hy
  rcases hy with rfl | rfl
  · exact ⟨_, rfl, .of (by decide)⟩
  · exact ⟨_, rfl, .of (by decide)⟩
theorem fq_neg (r : Rat) : D.tup [.int (-r.num), .int (r.den : Int)] = fq (-r) := by
  unfold fq
  rw [Rat.neg_num, Rat.neg_den]
/-- a list of fractions: of each item that it is one, and its size -/
def AllQ (n : Nat) (l : List D) : Prop := ∀ d ∈ l, ∃ r, d = fq r ∧ SzR n r
theorem AllQ.ex {n : Nat} : ∀ {l : List D}, AllQ n l → ∃ rs : List Rat, l = rs.map fq ∧ ∀ r ∈ rs, SzR n r
  | [], _ => ⟨[], rfl, fun _ h => nomatch h⟩
  | d :: l, h => by
    obtain ⟨r, rfl, hr⟩ := h d List.mem_cons_self
    obtain ⟨rs, rfl, hs⟩ := AllQ.ex fun d hd => h d (List.mem_cons_of_mem _ hd)
    exact ⟨r :: rs, rfl, fun x hx => by
      rcases List.mem_cons.mp hx with rfl | hx
      · exact hr
      · exact hs x hx⟩
theorem AllQ.cons {n : Nat} {r : Rat} {l : List D} (h : SzR n r) (g : AllQ n l) : AllQ n (fq r :: l) := fun d hd => by
  rcases List.mem_cons.mp hd with rfl | hd
  · exact ⟨r, rfl, h⟩
  · exact g d hd
theorem AllQ.nil {n : Nat} : AllQ n [] := fun _ h => nomatch h
theorem AllQ.app {n : Nat} {l m : List D} (h : AllQ n l) (g : AllQ n m) : AllQ n (l ++ m) := fun d hd => (List.mem_append.mp hd).elim (h d) (g d)
theorem fq_0 : D.tup [.int 0, .int 1] = fq 0 := rfl
theorem fq_1 : D.tup [.int 1, .int 1] = fq 1 := rfl
theorem fq_m1 : D.tup [.int (-1), .int 1] = fq (-1) := fq_neg 1
theorem sz1 : SzR 1 1 := ⟨.of (by decide), .of (by decide)⟩
theorem rd__law_five : ∀ ws q, sp__law_five ws q → T__law_five (endsE ws q) (start0 4 ws) := by
  rintro ws q ⟨⟨b, c, _⟩, rfl, ⟨⟨hb, hc⟩, _⟩, hq⟩
  have hb : Bk c b := hb
  have hc : c + 40 ≤ lineC := hc
  have hq : ∀ (b' : Bx) (r : List D), Bk (c + 40) b' → r.length = 5 → AllQ 1100 r → q (.own none r) (bxl b') := fun b' r h1 h2 h3 => by
    obtain ⟨rs, rfl, hs⟩ := h3.ex
    exact hq (b', rs) ⟨h1, by simpa using h2, hs⟩
  refine number_i hb (by omega) (by decide) fun b1 r1 k1 z1 => ?_
  refine pick_i (l := [.int 1, .int (-1)]) k1 (by omega) rfl (by intro z; cases z) (by decide) fun b2 s k2 hs => ?_
  obtain ⟨s, rfl, ss⟩ := sign_of hs
  refine great_i k2 (by omega) fun b3 t k3 t0 ts => ?_
  refine ⟨ss.cmul ts, ?_⟩
  refine great_i k3 (by omega) fun b4 u k4 u0 us => ?_
  refine low_i (by omega) (us.mono (by decide)) ((ss.mul ts).mono (by decide)) ?_
  refine great_i k4 (by omega) fun b5 v k5 v0 vs => ?_
  refine low_i (by decide) ((Sm.of (n := 3) (by decide)).mono (by decide)) (vs.mono (by decide)) ?_
  refine pick_i (l := [.tup [.int 0, .int 1], .tup [.int 1, .int 1], .tup [.int (-1), .int 1]]) k5 (by omega) rfl (by intro z; cases z) (by decide) fun b6 w k6 hw => ?_
  obtain ⟨w, rfl, ws⟩ : ∃ r, w = fq r ∧ SzR 1100 r := by
    simp only [List.mem_cons, List.not_mem_nil, or_false] at hw
    rcases hw with rfl | rfl | rfl
    · exact ⟨0, fq_0, sz0.mono (by decide)⟩
    · exact ⟨1, fq_1, sz1.mono (by decide)⟩
    · exact ⟨-1, fq_m1, sz1.neg.mono (by decide)⟩
  have q1 : SzR 1100 (Rat.divInt (s * t) u) := (divInt_sm (by omega) ((ss.mul ts).mono (by decide)) (us.mono (by decide)))
  have q2 : SzR 1100 (Rat.divInt v 7) := (divInt_sm (by decide) (vs.mono (by decide)) ((Sm.of (n := 3) (by decide)).mono (by decide)))
  have af : AllQ 1100 [fq r1, fq (Rat.divInt (s * t) u), fq (Rat.divInt v 7), fq w] := .cons (z1.mono (by decide)) (.cons q1 (.cons q2 (.cons ws .nil)))
  refine pick_i (l := [fq r1, fq (Rat.divInt (s * t) u), fq (Rat.divInt v 7), fq w]) k6 (by omega) rfl (by intro z; cases z) (by simp) fun b7 n k7 hn => ?_
  obtain ⟨n, rfl, zn⟩ := af n hn
  have fin : ∀ ml : List D, AllQ 1100 ml → ml ≠ [] → ml.length ≤ 4 → T__law_five_4 (endsE [oX b] q) [some (.own (some 0) (bxl b7)), some (.imm (.lst [fq r1, fq (Rat.divInt (s * t) u), fq (Rat.divInt v 7), fq w])), some (oQ n), some (.own none ml)] := fun ml am ne hl => by
    refine pick_i (l := ml) k7 (by omega) rfl ne (by have : (2 : Nat) ^ 20 = 1048576 := by decide
                                                     omega) fun b8 x k8 hx => ?_
    obtain ⟨x, rfl, zx⟩ := am x hx
    refine ⟨by show 5 ≤ 65536; decide, ?_⟩
    refine mixed_i (n := 5) (l := [fq r1, fq (Rat.divInt (s * t) u), fq (Rat.divInt v 7), fq w, fq x]) k8 (by omega) rfl rfl (by decide) fun b9 y k9 hy => ?_
    refine hq b9 y (k9.mono (by omega)) hy.length_eq fun d hd => ?_
    exact (af.app (.cons zx .nil)) d (hy.mem_iff.mp hd)
  have more : T__law_five_3 (endsE [oX b] q) [some (.own (some 0) (bxl b7)), some (.imm (.lst [fq r1, fq (Rat.divInt (s * t) u), fq (Rat.divInt v 7), fq w])), some (oQ n), some (.own none [fq n, fq n, .tup [.int (-n.num), .int (n.den : Int)]])] := by
    have am : AllQ 1100 [fq n, fq n, .tup [.int (-n.num), .int (n.den : Int)]] := by
      rw [fq_neg]
      exact .cons zn (.cons zn (.cons zn.neg .nil))
    have go := fin _ am (by intro z; cases z) (by show 3 ≤ 4; decide)
    refine power_i (by decide) (by decide) fun pa ea => ?_
    refine brD (fun h1 => ?_) fun h1 => go
    refine power_i (by decide) (by decide) fun pb eb => ?_
    refine brD (fun h2 => ?_) fun h2 => go
    have pA : Sm 481 pa := by rw [ea]; exact sm10 _
    have pB : Sm 481 pb := by rw [eb]; exact sm10 _
    have a1 : ∀ x : Int, (if x < 0 then -x else x).natAbs = x.natAbs := fun x => by split <;> omega
    have a0 : ∀ x : Int, 0 ≤ (if x < 0 then -x else x) := fun x => by split <;> omega
    have d0 := den_pos n
    have s1 : Sm 481 n.num := pA.le (by
      have := a1 n.num
      have := a0 n.num
      have h1 : (if n.num < 0 then -n.num else n.num) < pa := h1
      omega)
    have s2 : Sm 481 (n.den : Int) := pB.le (by
      have h2 : (n.den : Int) < pb := h2
      omega)
    have s3 : Sm 1000 (n.num * n.den + 1) := (Sm.add (s1.mul s2) ((Sm.of (n := 1) (i := 1) (by decide)).mono (by decide))).mono (by decide)
    have s4 : Sm 1000 ((n.den : Int) * n.den) := (s2.mul s2).mono (by decide)
    have ne : (n.den : Int) * n.den ≠ 0 := Int.mul_ne_zero (den_ne n) (den_ne n)
    refine ⟨s1.cmul s2, s2.cmul s2, low_i ne (s4.mono (by decide)) (s3.mono (by decide)) ?_⟩
    refine ⟨by show 3 < 65536; decide, ?_⟩
    exact fin _ (am.app (.cons ((divInt_sm ne (s3.mono (by decide)) (s4.mono (by decide)))) .nil)) (by intro z; cases z) (by show 4 ≤ 4; decide)
  exact more
end DL

namespace DL
open PySem L2
theorem one_flag (a b : Rat) : (([decide (a < b), decide (b < a), decide (a = b)].filter id).map D.bl).length = 1 := by
  by_cases h1 : a < b
  · have h2 : ¬ b < a := fun h => by grind
    have h3 : ¬ a = b := fun h => by rw [h] at h1; exact Rat.lt_irrefl h1
    rw [decide_eq_true h1, decide_eq_false h2, decide_eq_false h3]; rfl
  · by_cases h2 : b < a
    · have h3 : ¬ a = b := fun h => by rw [h] at h2; exact Rat.lt_irrefl h2
      rw [decide_eq_false h1, decide_eq_true h2, decide_eq_false h3]; rfl
    · have h3 : a = b := Rat.le_antisymm (Rat.not_lt.mp h2) (Rat.not_lt.mp h1)
      rw [decide_eq_false h1, decide_eq_false h2, decide_eq_true h3]; rfl
theorem num0 {b : Rat} (h : ¬ b.num = 0) : b ≠ 0 := fun z => h (Rat.num_eq_zero.mpr z)
theorem rd__law_two_right : ∀ ws q, sp__law_two_right ws q → T__law_two_right (endsE ws q) (start0 8 ws) := by
  rintro ws q ⟨⟨a, b, named⟩, rfl, ⟨ha, hb⟩, hq⟩
  have ha : SzR 1100 a := ha
  have hb : SzR 1100 b := hb
  have ha' : SzR 4400 a := ha.mono (by decide)
  have hb' : SzR 4400 b := hb.mono (by decide)
  have hab := (ha.add hb).mono (m := 4400) (by decide)
  have hm := (ha.mul hb).mono (m := 4400) (by decide)
  have last : T__law_two_right_7 (endsE [oQ a, oQ b, oB named] q) [some (oQ a), some (oQ b), some (oB named), some (.imm (.lst [fq (a + b), fq (a - b), fq (a * b), .bl (decide (a < b))])), some (.imm (.lst [fq (a + b - b), fq (b + a), fq (b * a), fq (b - a)])),
      some (.imm (.lst [fq a, fq (a + b), fq (a * b), .tup [.int (-(a - b).num), .int ((a - b).den : Int)]])), some (.imm (.lst ([decide (a < b), decide (b < a), decide (a = b)].map D.bl))), none] := by
    refine ⟨by show 3 ≤ 65536; decide, fun j acc δ => acc = (([decide (a < b), decide (b < a), decide (a = b)].take j).filter id).map D.bl ∧ δ = [some (oQ a), some (oQ b), some (oB named), some (.imm (.lst [fq (a + b), fq (a - b), fq (a * b), .bl (decide (a < b))])), some (.imm (.lst [fq (a + b - b), fq (b + a), fq (b * a), fq (b - a)])),
      some (.imm (.lst [fq a, fq (a + b), fq (a * b), .tup [.int (-(a - b).num), .int ((a - b).den : Int)]])), some (.imm (.lst ([decide (a < b), decide (b < a), decide (a = b)].map D.bl))), none], ⟨rfl, rfl⟩, ?_, ?_⟩
    · rintro j d acc δ2 hj _ ⟨rfl, e⟩
      rw [e]
      generalize hbs : [decide (a < b), decide (b < a), decide (a = b)] = bs at hj ⊢
      rw [List.getElem?_map] at hj
      have hlt : j < bs.length := by
        rcases Nat.lt_or_ge j bs.length with h | h
        · exact h
        · rw [List.getElem?_eq_none h] at hj; cases hj
      rw [List.getElem?_eq_getElem hlt] at hj
      cases hj
      have et : bs.take (j + 1) = bs.take j ++ [bs[j]] := by
        rw [List.take_add_one, List.getElem?_eq_getElem hlt]; rfl
      refine brD (fun hx => ?_) fun hx => ?_
      · refine ⟨?_, rfl⟩
        show ((bs.take j).filter id).map D.bl ++ [D.bl bs[j]] = ((bs.take (j + 1)).filter id).map D.bl
        rw [et, List.filter_append, List.map_append, hx]; rfl
      · have hx : bs[j] = false := by
          cases e : bs[j] with
          | true => exact absurd e hx
          | false => rfl
        refine ⟨?_, rfl⟩
        show ((bs.take j).filter id).map D.bl = ((bs.take (j + 1)).filter id).map D.bl
        rw [et, List.filter_append, List.map_append, hx]
        show _ = _ ++ []
        rw [List.append_nil]
    · rintro acc δ2 ⟨rfl, e⟩
      rw [e]
      refine brD (fun _ => ?_) fun h => absurd (congrArg Int.ofNat (one_flag a b)) h
      refine ask ⟨fq (a + b), rfl, rfl, ?_⟩
      exact same_i (by show D.bl (isFrD (fq (a + b))) = _; rw [isFr_fq]) rfl hq
  have r5 : T__law_two_right_6 (endsE [oQ a, oQ b, oB named] q) [some (oQ a), some (oQ b), some (oB named), some (.imm (.lst [fq (a + b), fq (a - b), fq (a * b), .bl (decide (a < b))])), some (.imm (.lst [fq (a + b - b), fq (b + a), fq (b * a), fq (b - a)])),
      some (.imm (.lst [fq a, fq (a + b), fq (a * b), .tup [.int (-(a - b).num), .int ((a - b).den : Int)]])), none, none] := by
    refine below_i hb' ha' ⟨rfl, ?_⟩
    rw [← eqv_fq] at last
    exact last
  have r3 : T__law_two_right_3 (endsE [oQ a, oQ b, oB named] q) [some (oQ a), some (oQ b), some (oB named), some (.imm (.lst [fq (a + b), fq (a - b), fq (a * b), .bl (decide (a < b))])), none, none, none, none] := by
    refine minus_i hab hb' (plus_i hb' ha' (times_i hb' ha' (minus_i hb' ha' ?_)))
    refine same_i ?_ rfl ?_
    · show D.lst [fq (a + b - b), fq (b + a), fq (b * a), fq (b - a)] = .lst [fq a, fq (a + b), fq (a * b), .tup [.int (-(a - b).num), .int ((a - b).den : Int)]]
      rw [fq_neg, show a + b - b = a by grind, show b + a = a + b by grind, show b * a = a * b by grind, show b - a = -(a - b) by grind]
    · refine brN (fun h => ?_) fun h => r5
      refine times_i ha' hb' (over_i hm hb' (num0 h) (same_i ?_ rfl r5))
      have := num0 h
      show fq (a * b / b) = fq a
      rw [show a * b / b = a by grind]
  have r1 : T__law_two_right_1 (endsE [oQ a, oQ b, oB named] q) [some (oQ a), some (oQ b), some (oB named), some (.imm (.lst [fq (a + b), fq (a - b), fq (a * b), .bl (decide (a < b))])), none, none, none, none] := by
    refine lplus_i ha' hb' (lminus_i ha' hb' (ltimes_i ha' hb' (lless_i ha' hb' (same_i rfl rfl ?_))))
    refine brN (fun h => ?_) fun h => r3
    refine brI (fun _ => ?_) fun _ => ?_
    · exact over_i ha' hb' (num0 h) (lover_i ha' hb' (num0 h) (same_i rfl rfl r3))
    · exact over_i ha' hb' (num0 h) (lover_i ha' hb' (num0 h) (same_i rfl rfl r3))
  refine brI (fun _ => ?_) fun _ => ?_
  · exact plus_i ha' hb' (minus_i ha' hb' (times_i ha' hb' (below_i ha' hb' r1)))
  · exact plus_i ha' hb' (minus_i ha' hb' (times_i ha' hb' (below_i ha' hb' r1)))
end DL

namespace DL
open PySem L2
theorem lt_mul {a b c : Rat} (h : 0 < c) : (a * c < b * c) ↔ (a < b) := Rat.mul_lt_mul_right h
theorem num_pos {c : Rat} (h : 0 < c.num) : 0 < c := by
  rw [Rat.lt_iff]; simpa using h
theorem lsum3_i {a b c : Rat} {q : W → List D → Prop} (h1 : SzR 1100 a) (h2 : SzR 1100 b) (h3 : SzR 1100 c) (h : q (oQ (0 + a + b + c)) []) : Ask sp__law_sum [.imm (.lst [fq a, fq b, fq c])] q :=
  ask ⟨([a, b, c], 1100), rfl, ⟨(fun r hr => by
    rcases List.mem_cons.mp hr with rfl | hr
    · exact h1
    · rcases List.mem_cons.mp hr with rfl | hr
      · exact h2
      · rcases List.mem_cons.mp hr with rfl | hr
        · exact h3
        · cases hr), by show 1 + 3 * 1101 ≤ 4400; decide⟩, h⟩
theorem rd__law_three_right : ∀ ws q, sp__law_three_right ws q → T__law_three_right (endsE ws q) (start0 7 ws) := by
  rintro ws q ⟨⟨a, b, c, named⟩, rfl, ⟨ha, hb, hc⟩, hq⟩
  have ha : SzR 1100 a := ha
  have hb : SzR 1100 b := hb
  have hc : SzR 1100 c := hc
  have a' : SzR 4400 a := ha.mono (by decide)
  have b' : SzR 4400 b := hb.mono (by decide)
  have c' : SzR 4400 c := hc.mono (by decide)
  have sab := (ha.add hb).mono (m := 4400) (by decide)
  have sbc := (hb.add hc).mono (m := 4400) (by decide)
  have sac := (ha.add hc).mono (m := 4400) (by decide)
  have dab := (ha.sub hb).mono (m := 4400) (by decide)
  have mab := (ha.mul hb).mono (m := 4400) (by decide)
  have mbc := (hb.mul hc).mono (m := 4400) (by decide)
  have mac := (ha.mul hc).mono (m := 4400) (by decide)
  have r4 : ∀ x4 x5 x6, T__law_three_right_4 (endsE [oQ a, oQ b, oQ c, oB named] q) [some (oQ a), some (oQ b), some (oQ c), some (oB named), some (.imm x4), some (.imm x5), some (.imm x6)] := fun x4 x5 x6 => by
    have r5 : T__law_three_right_5 (endsE [oQ a, oQ b, oQ c, oB named] q) [some (oQ a), some (oQ b), some (oQ c), some (oB named), some (.imm x4), some (.imm x5), some (.imm x6)] := by
      refine brN (fun _ => hq) fun h => ?_
      have pc := num_pos h
      refine times_i a' c' (times_i b' c' (below_i mac mbc (plus_i a' c' (plus_i b' c' (below_i sac sbc (lless_i a' b' ?_))))))
      refine ⟨⟨by decide, by decide, by show 1 * 2 ≤ 65536; decide⟩, same_i ?_ rfl hq⟩
      show D.lst [.bl (decide (a * c < b * c)), .bl (decide (a + c < b + c))] = .lst [.bl (decide (a < b)), .bl (decide (a < b))]
      rw [decide_eq_decide.mpr (lt_mul pc), decide_eq_decide.mpr (show (a + c < b + c) ↔ (a < b) by grind)]
    refine below_i a' b' (brD (fun h1 => ?_) fun _ => r5)
    refine below_i b' c' (brD (fun h2 => ?_) fun _ => r5)
    refine below_i a' c' ?_
    refine brN (fun h => ?_) fun _ => r5
    exact absurd (decide_eq_true (show a < c by grind)) h
  refine plus_i a' b' (plus_i sab c' (times_i a' b' (times_i mab c' (plus_i a' b' (times_i sab c' (minus_i a' b' (minus_i dab c' ?_)))))))
  refine plus_i b' c' (plus_i a' sbc (times_i b' c' (times_i a' mbc (times_i a' c' (times_i b' c' (plus_i mac mbc (plus_i b' c' (minus_i a' sbc ?_))))))))
  refine lsum3_i ha hb hc (ltimes_i a' b' (ltimes_i mab c' (lplus_i a' b' (ltimes_i sab c' (lplus_i b' c' (lminus_i a' sbc ?_))))))
  refine same_i ?_ rfl ?_
  · show D.lst [fq (a + b + c), fq (a * b * c), fq ((a + b) * c), fq (a - b - c)] = .lst [fq (0 + a + b + c), fq (a * b * c), fq ((a + b) * c), fq (a - (b + c))]
    rw [show 0 + a + b + c = a + b + c by grind, show a - b - c = a - (b + c) by grind]
  · refine same_i ?_ rfl (r4 _ _ _)
    show D.lst [fq (a + (b + c)), fq (a * (b * c)), fq (a * c + b * c), fq (a - (b + c))] = .lst [fq (0 + a + b + c), fq (a * b * c), fq ((a + b) * c), fq (a - (b + c))]
    rw [show 0 + a + b + c = a + (b + c) by grind, show a * b * c = a * (b * c) by grind, show (a + b) * c = a * c + b * c by grind]
end DL

namespace DL
open PySem L2
theorem fq_co {t : Int} {b : Nat} (h0 : b ≠ 0) (h : Nat.Coprime t.natAbs b) : fq (Rat.divInt t (b : Int)) = .tup [.int t, .int (b : Int)] := by
  have e : Rat.divInt t (b : Int) = ⟨t, b, h0, h⟩ := (Rat.mk_eq_divInt ..).symm
  rw [e]
  rfl
theorem cut_lo (l : List D) {n : Nat} (h : n ≤ l.length) : cutD l none (some ((n : Nat) : Int)) = l.take n := by
  unfold cutD
  rw [HT.sIx_none, HT.sIx_nat, Nat.sub_zero, List.drop_zero, Nat.min_eq_left h]
theorem cut_hi (l : List D) {n : Nat} (h : n ≤ l.length) : cutD l (some ((n : Nat) : Int)) none = l.drop n := by
  unfold cutD
  rw [HT.sIx_none, HT.sIx_nat, Nat.min_eq_left h]
  exact List.take_of_length_le (by rw [List.length_drop]; exact Nat.le_refl _)
/-- in order -/
def Srt (l : List Rat) : Prop := l.Pairwise (· ≤ ·)
def below' (x : Rat) (l : List Rat) : Nat := (l.filter fun r => decide (r < x)).length
theorem below_le (x : Rat) (l : List Rat) : below' x l ≤ l.length := List.length_filter_le _ _
theorem srt_ins (x : Rat) : ∀ {l : List Rat}, Srt l → Srt (l.take (below' x l) ++ [x] ++ l.drop (below' x l))
  | [], _ => by simp [Srt, below']
  | y :: t, h => by
    have h1 := (List.pairwise_cons.mp h).1
    have h2 := srt_ins x (List.pairwise_cons.mp h).2
    by_cases hy : y < x
    · have e : below' x (y :: t) = below' x t + 1 := by simp [below', hy]
      rw [e, List.take_succ_cons, List.drop_succ_cons]
      refine List.pairwise_cons.mpr ⟨fun z hz => ?_, h2⟩
      have hz : z ∈ t.take (below' x t) ++ [x] ++ t.drop (below' x t) := hz
      rw [List.mem_append, List.mem_append, List.mem_singleton] at hz
      rcases hz with (hz | rfl) | hz
      · exact h1 z (List.mem_of_mem_take hz)
      · exact Rat.le_of_lt hy
      · exact h1 z (List.mem_of_mem_drop hz)
    · have xy : x ≤ y := Rat.not_lt.mp hy
      have e : below' x (y :: t) = 0 := by
        unfold below'
        rw [List.length_eq_zero_iff, List.filter_eq_nil_iff]
        intro z hz hd
        have hd := of_decide_eq_true hd
        rcases List.mem_cons.mp hz with rfl | hz
        · exact hy hd
        · have := h1 z hz
          exact hy (by grind)
      rw [e]
      show Srt (x :: y :: t)
      refine List.pairwise_cons.mpr ⟨fun z hz => ?_, h⟩
      rcases List.mem_cons.mp hz with rfl | hz
      · exact xy
      · exact Rat.le_trans xy (h1 z hz)
theorem get_map {l : List Rat} {j : Nat} {d : D} (h : (l.map fq)[j]? = some d) : ∃ h : j < l.length, d = fq l[j] := by
  rw [List.getElem?_map] at h
  rcases Nat.lt_or_ge j l.length with g | g
  · rw [List.getElem?_eq_getElem g] at h
    cases h
    exact ⟨g, rfl⟩
  · rw [List.getElem?_eq_none g] at h; cases h
theorem take_s {α : Type} {l : List α} {j : Nat} (h : j < l.length) : l.take (j + 1) = l.take j ++ [l[j]] := by
  rw [List.take_add_one, List.getElem?_eq_getElem h]; rfl
theorem tot (j : Nat) : Rat.divInt ((j : Nat) : Int) ((j + 1 : Nat) : Int) + Rat.divInt 1 ((1 + (j : Int)) * ((1 + (j : Int)) + 1)) = Rat.divInt ((j + 1 : Nat) : Int) ((j + 1 + 1 : Nat) : Int) := by
  have h1 : ((j + 1 : Nat) : Int) ≠ 0 := by omega
  have h3 : ((j + 1 + 1 : Nat) : Int) ≠ 0 := by omega
  have h2 : (1 + (j : Int)) * ((1 + (j : Int)) + 1) ≠ 0 := Int.mul_ne_zero (by omega) (by omega)
  rw [Rat.divInt_add_divInt _ _ h1 h2, Rat.divInt_eq_divInt_iff (Int.mul_ne_zero h1 h2) h3]
  push_cast
  grind
theorem prd (j : Nat) : Rat.divInt 1 ((j + 1 : Nat) : Int) * Rat.divInt (1 + (j : Int)) ((1 + (j : Int)) + 1) = Rat.divInt 1 ((j + 1 + 1 : Nat) : Int) := by
  have h1 : ((j + 1 : Nat) : Int) ≠ 0 := by omega
  have h3 : ((j + 1 + 1 : Nat) : Int) ≠ 0 := by omega
  have h2 : ((1 + (j : Int)) + 1) ≠ 0 := by omega
  rw [Rat.divInt_mul_divInt, Rat.divInt_eq_divInt_iff (Int.mul_ne_zero h1 h2) h3]
  push_cast
  grind
theorem cop (m : Nat) : Nat.Coprime m (m + 1) := by
  show Nat.gcd m (m + 1) = 1
  have h1 := Nat.gcd_dvd_left m (m + 1)
  have h2 := Nat.gcd_dvd_right m (m + 1)
  have := (Nat.dvd_add_right h1).mp h2
  exact Nat.dvd_one.mp this
theorem rd__law_rows_right : ∀ ws q, sp__law_rows_right ws q → T__law_rows_right (endsE ws q) (start0 11 ws) := by
  rintro ws q ⟨⟨b, c, five, named⟩, rfl, ⟨⟨hb, hc⟩, hl, hf⟩, hq⟩
  have hb : Bk c b := hb
  have hc : c + 1 ≤ lineC := hc
  have hl : five.length ≤ 20 := hl
  have hf : ∀ x ∈ five, SzR 1100 x := hf
  have hq : ∀ b' : Bx, Bk (c + 1) b' → q (oB true) (bxl b') := fun b' h => hq (b', ()) ⟨h, trivial⟩
  generalize hE : endsE (oX b :: [W.imm (oL five), oB named]) q = E
  have hE : endsE [oX b, W.imm (oL five), oB named] q = E := hE
  have last : ∀ (b' : Bx) (m : Nat) x3 x4 x5 x9 x10, Bk (c + 1) b' → T__law_rows_right_5 E [some (.own (some 0) (bxl b')), some (.imm (oL five)), some (oB named), some (.imm x3), x4, x5, some (oI ((m : Nat) : Int)), some (oQ (Rat.divInt ((m : Nat) : Int) ((m + 1 : Nat) : Int))), some (oQ (Rat.divInt 1 ((m + 1 : Nat) : Int))), x9, x10] := fun b' m x3 x4 x5 x9 x10 hb' => by
    rw [← hE]
    refine same_i ?_ rfl (hq b' hb')
    show D.lst [fq (Rat.divInt ((m : Nat) : Int) ((m + 1 : Nat) : Int)), fq (Rat.divInt 1 ((m + 1 : Nat) : Int))] = .lst [.tup [.int m, .int ((m : Int) + 1)], .tup [.int 1, .int ((m : Int) + 1)]]
    rw [fq_co (t := (m : Int)) (b := m + 1) (by omega) (cop m), fq_co (t := 1) (b := m + 1) (by omega) (Nat.gcd_one_left _)]
    rfl
  have r3 : ∀ (rs : List Rat) x4 x5 x9 x10, T__law_rows_right_3 E [some (.own (some 0) (bxl b)), some (.imm (oL five)), some (oB named), some (.imm (oL rs)), x4, x5, none, none, none, x9, x10] := fun rs x4 x5 x9 x10 => by
    refine take_i (k := 39) hb hc (by decide) fun b1 w k1 w0 w1 => ?_
    have w0 : 0 ≤ w := w0
    have w1 : w < 39 := w1
    obtain ⟨w, rfl⟩ := Int.eq_ofNat_of_zero_le w0
    have e62 : (2 : Int) ^ 62 = 4611686018427387904 := by decide
    refine ⟨⟨by decide, by decide, by show -(2 ^ 62) ≤ 2 + (w : Int) + 1; omega, by show 2 + (w : Int) + 1 < 2 ^ 62; omega⟩, fun j δ => ∃ x9, δ = [some (.own (some 0) (bxl b1)), some (.imm (oL five)), some (oB named), some (.imm (oL rs)), x4, x5, some (oI (2 + (w : Int))), some (oQ (Rat.divInt ((j : Nat) : Int) ((j + 1 : Nat) : Int))), some (oQ (Rat.divInt 1 ((j + 1 : Nat) : Int))), x9, x10], ⟨x9, rfl⟩, ?_, ?_⟩
    · rintro j d _ hj ⟨x9, rfl⟩
      obtain ⟨lt, rfl⟩ := rngD_get' hj
      have lt : j < 42 := by
        have : (2 + (w : Int) + 1 - 1).toNat = 2 + w := by omega
        rw [this] at lt
        omega
      have sk : Sm 20 (1 + (j : Int)) := .nn (j := 1000) (by omega) (by omega) (by decide)
      have sk1 : Sm 20 (1 + (j : Int) + 1) := .nn (j := 1000) (by omega) (by omega) (by decide)
      have sj : Sm 20 ((j : Nat) : Int) := .nn (j := 1000) (by omega) (by omega) (by decide)
      have sj1 : Sm 20 ((j + 1 : Nat) : Int) := .nn (j := 1000) (by omega) (by omega) (by decide)
      have n1 : (1 + (j : Int)) * (1 + (j : Int) + 1) ≠ 0 := Int.mul_ne_zero (by omega) (by omega)
      have z1 : SzR 4400 (Rat.divInt ((j : Nat) : Int) ((j + 1 : Nat) : Int)) := divInt_sm (by omega) (sj.mono (by decide)) (sj1.mono (by decide))
      have z2 : SzR 4400 (Rat.divInt 1 ((1 + (j : Int)) * (1 + (j : Int) + 1))) := divInt_sm n1 ((Sm.of (n := 1) (by decide)).mono (by decide)) ((sk.mul sk1).mono (by decide))
      have z3 : SzR 4400 (Rat.divInt 1 ((j + 1 : Nat) : Int)) := divInt_sm (by omega) ((Sm.of (n := 1) (by decide)).mono (by decide)) (sj1.mono (by decide))
      have z4 : SzR 4400 (Rat.divInt (1 + (j : Int)) (1 + (j : Int) + 1)) := divInt_sm (by omega) (sk.mono (by decide)) (sk1.mono (by decide))
      have two : ∀ T, T = Rat.divInt ((j : Nat) : Int) ((j + 1 : Nat) : Int) + Rat.divInt 1 ((1 + (j : Int)) * (1 + (j : Int) + 1)) → TSet (TCall sp_times [false, false] (TCons (TVar 8) (TCons (TCall sp_fraction [false, false] (TCons (TVar 9) (TCons (TOp rdAdd (TVar 9) (TC (.int 1))) TNil))) TNil))) (GName 8)
          { nx := fun δ => ∃ x9, δ = [some (.own (some 0) (bxl b1)), some (.imm (oL five)), some (oB named), some (.imm (oL rs)), x4, x5, some (oI (2 + (w : Int))), some (oQ (Rat.divInt ((j + 1 : Nat) : Int) ((j + 1 + 1 : Nat) : Int))), some (oQ (Rat.divInt 1 ((j + 1 + 1 : Nat) : Int))), x9, x10], rt := E.rt, bk := E.bk, ct := E.ct } [some (.own (some 0) (bxl b1)), some (.imm (oL five)), some (oB named), some (.imm (oL rs)), x4, x5, some (oI (2 + (w : Int))), some (oQ T), some (oQ (Rat.divInt 1 ((j + 1 : Nat) : Int))), some (oI (1 + (j : Int))), x10] := fun T hT => by
        refine fraction_i (by omega) (sk1.mono (by decide)) (times_i z3 z4 ⟨some (oI (1 + (j : Int))), ?_⟩)
        show [some (W.own (some 0) (bxl b1)), some (.imm (oL five)), some (oB named), some (.imm (oL rs)), x4, x5, some (oI (2 + (w : Int))), some (oQ T), some (oQ (Rat.divInt 1 ((j + 1 : Nat) : Int) * Rat.divInt (1 + (j : Int)) ((1 + (j : Int)) + 1))), some (oI (1 + (j : Int))), x10] = _
        rw [prd, hT, tot]
      refine brI (fun _ => ?_) fun _ => ?_
      · exact ⟨sk.cmul sk1, fraction_i n1 ((sk.mul sk1).mono (by decide)) (plus_i z1 z2 (two _ rfl))⟩
      · exact ⟨sk.cmul sk1, fraction_i n1 ((sk.mul sk1).mono (by decide)) (plus_i z1 z2 (two _ rfl))⟩
    · rintro _ ⟨x9, rfl⟩
      rw [rngD_len]
      have e1 : (2 + (w : Int) + 1 - 1).toNat = 2 + w := by omega
      have e2 : (2 + (w : Int)) = ((2 + w : Nat) : Int) := by omega
      rw [e1, e2]
      exact last b1 (2 + w) _ _ _ _ _ k1
  have r2 : ∀ (rs : List Rat) x4 x5, Srt rs → rs.length ≤ 20 → (∀ x ∈ rs, SzR 1100 x) → T__law_rows_right_2 E [some (.own (some 0) (bxl b)), some (.imm (oL five)), some (oB named), some (.imm (oL rs)), x4, x5, none, none, none, none, none] := fun rs x4 x5 hs hn hz => by
    have e62 : (2 : Int) ^ 62 = 4611686018427387904 := by decide
    refine ⟨⟨by decide, by decide, by show -(2 ^ 62) ≤ (((rs.map fq).length : Nat) : Int); omega, by show (((rs.map fq).length : Nat) : Int) < 2 ^ 62; rw [List.length_map]; omega⟩, ?_⟩
    refine ⟨by rw [rngD_len]; show ((((rs.map fq).length : Nat) : Int) - 1).toNat ≤ 65536; rw [List.length_map]; omega, fun j acc δ => acc = [] ∧ δ = [some (.own (some 0) (bxl b)), some (.imm (oL five)), some (oB named), some (.imm (oL rs)), x4, x5, none, none, none, none, none], ⟨rfl, rfl⟩, ?_, ?_⟩
    · rintro j d acc δ2 hj _ ⟨rfl, e⟩
      rw [e]
      obtain ⟨lt, rfl⟩ := rngD_get' hj
      have lt : j + 1 < rs.length := by
        have lt : j < ((((rs.map fq).length : Nat) : Int) - 1).toNat := lt
        rw [List.length_map] at lt
        omega
      have i1 : idx (rs.map fq) (1 + (j : Int)) = some (fq rs[j + 1]) := by
        rw [show 1 + (j : Int) = ((j + 1 : Nat) : Int) by omega]
        refine idx_of ?_
        rw [List.getElem?_map, List.getElem?_eq_getElem lt]; rfl
      have i2 : idx (rs.map fq) (1 + (j : Int) - 1) = some (fq rs[j]) := by
        rw [show 1 + (j : Int) - 1 = ((j : Nat) : Int) by omega]
        refine idx_of ?_
        rw [List.getElem?_map, List.getElem?_eq_getElem (by omega)]; rfl
      refine ⟨_, _, _, rfl, rfl, i1, _, _, _, rfl, rfl, i2, ?_⟩
      have m1 := (hz _ (List.getElem_mem lt)).mono (m := 4400) (by decide)
      have m2 := (hz _ (List.getElem_mem (show j < rs.length by omega))).mono (m := 4400) (by decide)
      refine lless_i m1 m2 (brD (fun h => ?_) fun h => ⟨rfl, rfl⟩)
      have := List.pairwise_iff_getElem.mp hs j (j + 1) (by omega) lt (by omega)
      exact absurd h (Rat.not_lt.mpr this)
    · rintro acc δ2 ⟨rfl, e⟩
      rw [e]
      exact ⟨by decide, r3 rs _ _ _ _⟩
  refine ⟨fun j δ => ∃ rs x4 x5, δ = [some (.own (some 0) (bxl b)), some (.imm (oL five)), some (oB named), some (.imm (oL rs)), x4, x5, none, none, none, none, none] ∧ Srt rs ∧ rs.length = j ∧ (∀ x ∈ rs, SzR 1100 x), ⟨[], none, none, rfl, .nil, rfl, fun _ h => nomatch h⟩, ?_, ?_⟩
  · rintro j d _ hj ⟨rs, x4, x5, rfl, hs, hn, hz⟩
    obtain ⟨lt, rfl⟩ := get_map hj
    generalize ex : five[j] = x
    have zx : SzR 1100 x := ex ▸ hf _ (List.getElem_mem lt)
    refine ⟨by show (rs.map fq).length ≤ 65536; rw [List.length_map]; omega, fun i acc δ => acc = ((rs.take i).filter fun r => decide (r < x)).map fq ∧ δ = [some (.own (some 0) (bxl b)), some (.imm (oL five)), some (oB named), some (.imm (oL rs)), some (oQ x), x5, none, none, none, none, none], ⟨rfl, rfl⟩, ?_, ?_⟩
    · rintro i d acc δ2 hi _ ⟨rfl, e⟩
      rw [e]
      obtain ⟨lti, rfl⟩ := get_map hi
      refine below_i ((hz _ (List.getElem_mem lti)).mono (by decide)) (zx.mono (by decide)) (brD (fun h => ⟨?_, rfl⟩) fun h => ⟨?_, rfl⟩)
      · rw [take_s lti, List.filter_append, List.map_append]
        simp [h]
      · rw [take_s lti, List.filter_append, List.map_append]
        simp [h]
    · rintro acc δ2 ⟨rfl, e⟩
      rw [e]
      have el : (((rs.take (rs.map fq).length).filter fun r => decide (r < x)).map fq).length = below' x rs := by
        rw [List.length_map, List.length_map, List.take_length]; rfl
      have go : TSet (TOp rdAdd (TOp rdAdd (TSl (TVar 3) TNoPart (TPart (TVar 5))) (TLst (TCons (TVar 4) TNil))) (TSl (TVar 3) (TPart (TVar 5)) TNoPart)) (GName 3)
          { nx := fun δ => ∃ rs x4 x5, δ = [some (.own (some 0) (bxl b)), some (.imm (oL five)), some (oB named), some (.imm (oL rs)), x4, x5, none, none, none, none, none] ∧ Srt rs ∧ rs.length = j + 1 ∧ (∀ x ∈ rs, SzR 1100 x), rt := E.rt, bk := E.bk, ct := E.ct } [some (.own (some 0) (bxl b)), some (.imm (oL five)), some (oB named), some (.imm (oL rs)), some (oQ x), some (oI ((below' x rs : Nat) : Int)), none, none, none, none, none] := by
        have hle := below_le x rs
        have c1 := cut_lo (rs.map fq) (n := below' x rs) (by rw [List.length_map]; exact hle)
        have c2 := cut_hi (rs.map fq) (n := below' x rs) (by rw [List.length_map]; exact hle)
        refine ⟨?_, ?_, rs.take (below' x rs) ++ [x] ++ rs.drop (below' x rs), some (oQ x), some (oI ((below' x rs : Nat) : Int)), ?_, srt_ins x hs, ?_, ?_⟩
        · show (cutD (rs.map fq) none (some ((below' x rs : Nat) : Int))).length + 1 ≤ 65536
          rw [c1, List.length_take, List.length_map]
          omega
        · show (cutD (rs.map fq) none (some ((below' x rs : Nat) : Int)) ++ [fq x]).length + (cutD (rs.map fq) (some ((below' x rs : Nat) : Int)) none).length ≤ 65536
          rw [c1, c2, List.length_append, List.length_take, List.length_drop, List.length_map]
          show _ + 1 + _ ≤ 65536
          omega
        · show [some (W.own (some 0) (bxl b)), some (.imm (oL five)), some (oB named), some (.imm (.lst (cutD (rs.map fq) none (some ((below' x rs : Nat) : Int)) ++ [fq x] ++ cutD (rs.map fq) (some ((below' x rs : Nat) : Int)) none))), some (oQ x), some (oI ((below' x rs : Nat) : Int)), none, none, none, none, none] = _
          rw [c1, c2]
          simp
        · rw [List.length_append, List.length_append, List.length_take, List.length_drop, List.length_singleton]
          omega
        · intro y hy
          rw [List.mem_append, List.mem_append, List.mem_singleton] at hy
          rcases hy with (hy | rfl) | hy
          · exact hz _ (List.mem_of_mem_take hy)
          · exact zx
          · exact hz _ (List.mem_of_mem_drop hy)
      rw [← el] at go
      exact go
  · rintro _ ⟨rs, x4, x5, rfl, hs, hn, hz⟩
    rw [List.length_map] at hn
    exact r2 rs x4 x5 hs (by omega) hz
end DL

namespace DL
open PySem L2
theorem rd__law_made_right : ∀ ws q, sp__law_made_right ws q → T__law_made_right (endsE ws q) (start0 7 ws) := by
  rintro ws q ⟨⟨b, c, named⟩, rfl, ⟨⟨hb, hc⟩, _⟩, hq⟩
  have hb : Bk c b := hb
  have hc : c + 40 ≤ lineC := hc
  have hq : ∀ b' : Bx, Bk (c + 40) b' → q (oB true) (bxl b') := fun b' h => hq (b', ()) ⟨h, trivial⟩
  refine ⟨⟨by decide, by decide⟩, fun j δ => ∃ b' nm x2 x3 x4 x5 x6, δ = [some (.own (some 0) (bxl b')), some (oB nm), x2, x3, x4, x5, x6] ∧ Bk (c + 6 * j) b', ⟨b, named, none, none, none, none, none, rfl, hb⟩, ?_, ?_⟩
  · rintro j d _ hj ⟨b0, nm, x2, x3, x4, x5, x6, rfl, k0⟩
    obtain ⟨lt, rfl⟩ := rngD_get' hj
    have lt : j < 4 := lt
    refine pick_i (l := [.int 1, .int 40, .int 120]) k0 (by omega) rfl (by intro z; cases z) (by decide) fun b1 y k1 hy => ?_
    obtain ⟨k, rfl, kk⟩ : ∃ k : Nat, y = .int k ∧ k ≤ 120 := by
      simp only [List.mem_cons, List.not_mem_nil, or_false] at hy
      rcases hy with rfl | rfl | rfl
      · exact ⟨1, rfl, by decide⟩
      · exact ⟨40, rfl, by decide⟩
      · exact ⟨120, rfl, by decide⟩
    refine power_i (by omega) (by omega) fun pa ea => ⟨⟨by decide, by decide, by decide⟩, ?_⟩
    refine take_i k1 (by omega) (by decide) fun b2 x k2 x0 x1 => ?_
    have x0 : 0 ≤ x := x0
    have x1 : x < (10 : Int) ^ (6 : Int).toNat := x1
    rw [pow6] at x1
    have sx : Sm 481 x := (Sm.nn (n := 20) x0 x1 (by decide)).mono (by decide)
    have sp1 : Sm 481 pa := by rw [ea]; exact (sm10 _).mono (by omega)
    have p0 : 0 < pa := by rw [ea]; exact pow10 _
    have sc := sp1.add sx
    have c0 : pa + x ≠ 0 := by omega
    refine pick_i (l := [.int 1, .int (-1)]) k2 (by omega) rfl (by intro z; cases z) (by decide) fun b3 s k3 hs => ?_
    obtain ⟨s, rfl, ss⟩ := sign_of hs
    refine ⟨⟨by decide, by decide, by decide⟩, take_i k3 (by omega) (by decide) fun b4 t k4 t0 t1 => ?_⟩
    have t0 : 0 ≤ t := t0
    have t1 : t < (10 : Int) ^ (9 : Int).toNat := t1
    rw [pow9] at t1
    have st : Sm 40 t := .nn t0 t1 (by decide)
    refine ⟨ss.cmul st, ?_⟩
    refine pick_i (l := [.int 1, .int (-1)]) k4 (by omega) rfl (by intro z; cases z) (by decide) fun b5 s' k5 hs' => ?_
    obtain ⟨s', rfl, s0', ss'⟩ : ∃ z : Int, s' = .int z ∧ z ≠ 0 ∧ Sm 1 z := by
      simp only [List.mem_cons, List.not_mem_nil, or_false] at hs'
      rcases hs' with rfl | rfl
      · exact ⟨_, rfl, by decide, .of (by decide)⟩
      · exact ⟨_, rfl, by decide, .of (by decide)⟩
    refine ⟨⟨by decide, by decide, by decide⟩, take_i k5 (by omega) (by decide) fun b6 u k6 u0 u1 => ?_⟩
    have u0 : 0 ≤ u := u0
    have u1 : u < (10 : Int) ^ (9 : Int).toNat := u1
    rw [pow9] at u1
    have su : Sm 40 (1 + u) := .nn (j := 10000000000) (by omega) (by omega) (by decide)
    refine ⟨ss'.cmul su, ?_⟩
    have n1 : s' * (1 + u) ≠ 0 := Int.mul_ne_zero s0' (by omega)
    have s1 := ss'.mul su
    have s2 := ss.mul st
    generalize s' * (1 + u) = bot at n1 s1 ⊢
    generalize s * t = top at s2 ⊢
    generalize pa + x = com at c0 sc ⊢
    have k6 : Bk (c + 6 * (j + 1)) b6 := k6.mono (by omega)
    have nb : bot * com ≠ 0 := Int.mul_ne_zero n1 c0
    have sb := s1.mul sc
    have e1 : Rat.divInt (top * com) (bot * com) = Rat.divInt top bot := Rat.divInt_mul_right c0
    have e2 : Rat.divInt 0 (bot * com) = 0 := Rat.zero_divInt _
    have e3 : Rat.divInt (-com) com = -1 := by
      have := Rat.divInt_mul_right (n := -1) (d := 1) c0
      rw [Int.one_mul, Int.neg_one_mul] at this
      rw [this]; rfl
    have tc := s2.cmul sc
    have bc := s1.cmul sc
    refine brI (fun _ => ?_) fun _ => ?_
    · refine ⟨bc, tc, fraction_i nb (sb.mono (by decide)) ?_⟩
      refine low_i n1 (s1.mono (by decide)) (s2.mono (by decide)) (same_i (by show fq (Rat.divInt (top * com) (bot * com)) = _; rw [e1]) rfl ?_)
      refine ⟨bc, fraction_i nb (sb.mono (by decide)) (same_i (by show fq (Rat.divInt 0 (bot * com)) = _; rw [e2]; rfl) rfl ?_)⟩
      refine fraction_i c0 (sc.mono (by decide)) (same_i (by show fq (Rat.divInt (-com) com) = _; rw [e3, ← fq_m1]) rfl ?_)
      exact ⟨b6, !nm, _, _, _, _, _, rfl, k6⟩
    · refine ⟨tc, bc, fraction_i nb (sb.mono (by decide)) ?_⟩
      refine low_i n1 (s1.mono (by decide)) (s2.mono (by decide)) (same_i (by show fq (Rat.divInt (top * com) (bot * com)) = _; rw [e1]) rfl ?_)
      refine ⟨bc, fraction_i nb (sb.mono (by decide)) (same_i (by show fq (Rat.divInt 0 (bot * com)) = _; rw [e2]; rfl) rfl ?_)⟩
      refine fraction_i c0 (sc.mono (by decide)) (same_i (by show fq (Rat.divInt (-com) com) = _; rw [e3, ← fq_m1]) rfl ?_)
      exact ⟨b6, !nm, _, _, _, _, _, rfl, k6⟩
  · rintro _ ⟨b', nm, x2, x3, x4, x5, x6, rfl, k0⟩
    exact hq b' (k0.mono (by show c + 6 * 4 ≤ c + 40; omega))
end DL

namespace DL
open PySem L2
theorem five_i {b : Bx} {c : Nat} {q : W → List D → Prop} (hb : Bk c b) (hc : c + 40 ≤ lineC) (h : ∀ b' l, Bk (c + 40) b' → l.length = 5 → AllQ 1100 l → q (.own none l) (bxl b')) : Ask sp__law_five [oX b] q :=
  ask ⟨(b, c, ()), rfl, ⟨⟨hb, hc⟩, trivial⟩, fun r hr => h r.1 (r.2.map fq) hr.1 (by rw [List.length_map]; exact hr.2.1) fun d hd => by
    obtain ⟨x, hx, rfl⟩ := List.mem_map.mp hd
    exact ⟨x, rfl, hr.2.2 x hx⟩⟩
theorem two_i {a b : Rat} {n : Bool} {q : W → List D → Prop} (ha : SzR 1100 a) (hb : SzR 1100 b) (h : q (oB true) []) : Ask sp__law_two_right [oQ a, oQ b, oB n] q := ask ⟨(a, b, n), rfl, ⟨ha, hb⟩, h⟩
theorem three_i {a b c : Rat} {n : Bool} {q : W → List D → Prop} (ha : SzR 1100 a) (hb : SzR 1100 b) (hc : SzR 1100 c) (h : q (oB true) []) : Ask sp__law_three_right [oQ a, oQ b, oQ c, oB n] q := ask ⟨(a, b, c, n), rfl, ⟨ha, hb, hc⟩, h⟩
theorem rows_i {b : Bx} {c : Nat} {l : List D} {n : Bool} {q : W → List D → Prop} (hb : Bk c b) (hc : c + 1 ≤ lineC) (hn : l.length = 5) (hl : AllQ 1100 l) (h : ∀ b', Bk (c + 1) b' → q (oB true) (bxl b')) : Ask sp__law_rows_right [oX b, .imm (.lst l), oB n] q := by
  obtain ⟨rs, rfl, hs⟩ := hl.ex
  rw [List.length_map] at hn
  exact ask ⟨(b, c, rs, n), rfl, ⟨⟨hb, hc⟩, by show rs.length ≤ 20; omega, hs⟩, fun r hr => h r.1 hr.1⟩
theorem made_i {b : Bx} {c : Nat} {n : Bool} {q : W → List D → Prop} (hb : Bk c b) (hc : c + 40 ≤ lineC) (h : ∀ b', Bk (c + 40) b' → q (oB true) (bxl b')) : Ask sp__law_made_right [oX b, oB n] q :=
  ask ⟨(b, c, n), rfl, ⟨⟨hb, hc⟩, trivial⟩, fun r hr => h r.1 hr.1⟩
theorem cell_i {ns : List Int} {k : Int} {q : W → List D → Prop} (h : 0 ≤ k ∧ k < 2 ^ 32) (hq : ∀ r, q (oI r) []) : Ask sp__law_cell [.imm (.fz (ns.map D.int)), oI k] q := ask ⟨(ns, k), rfl, h, fun r _ => hq r⟩
theorem box_i {g : Int} {q : W → List D → Prop} (hq : ∀ b, Bk 0 b → q (oX b) []) : Ask sp__law_box [oI g] q := ask ⟨g, rfl, trivial, hq⟩
theorem five_sh : ∀ {l : List D}, l.length = 5 → ∃ a b c d e, l = [a, b, c, d, e]
  | [a, b, c, d, e], _ => ⟨a, b, c, d, e, rfl⟩
theorem allq_p {n : Nat} {x l : List D} (h : AllQ n l) (p : x.Perm l) : AllQ n x := fun d hd => h d (p.mem_iff.mp hd)
theorem rd_law : ∀ ws q, sp_law ws q → T_law (endsE ws q) (start0 9 ws) := by
  rintro ws q ⟨ns, rfl, hn, hq⟩
  have hn : ns.length ≤ 63 := hn
  have e62 : (2 : Int) ^ 62 = 4611686018427387904 := by decide
  have e32 : (2 : Int) ^ 32 = 4294967296 := by decide
  have len : (((ns.map D.int).length : Nat) : Int) = (ns.length : Int) := by rw [List.length_map]
  obtain ⟨m, em, m0⟩ : ∃ m : Int, maxI 2 (minI 4 (((ns.map D.int).length : Nat) : Int)) = m ∧ m ≤ 100 ∧ 0 ≤ m := ⟨_, rfl, by rw [len]; unfold maxI minI; split <;> split <;> omega, by rw [len]; unfold maxI minI; split <;> split <;> omega⟩
  refine ⟨?_, fun j δ => ∃ x1 x2 x3 x4 x5 x6 x7 x8, δ = [some (.imm (.fz (ns.map D.int))), x1, x2, x3, x4, x5, x6, x7, x8], ⟨none, none, none, none, none, none, none, none, rfl⟩, ?_, ?_⟩
  · show -(2 ^ 62) ≤ maxI 2 (minI 4 (((ns.map D.int).length : Nat) : Int)) ∧ maxI 2 (minI 4 (((ns.map D.int).length : Nat) : Int)) < 2 ^ 62
    rw [em]; omega
  · rintro j d _ hj ⟨x1, x2, x3, x4, x5, x6, x7, x8, rfl⟩
    obtain ⟨lt, rfl⟩ := rngD_get' hj
    have lt : j < (maxI 2 (minI 4 (((ns.map D.int).length : Nat) : Int))).toNat := lt
    rw [em] at lt
    refine cell_i (by omega) fun g => box_i fun b0 k0 => ?_
    refine take_i (k := 2) k0 (by decide) (by decide) fun b1 w k1 w0 w1 => ?_
    refine five_i k1 (by decide) fun b2 l k2 ll hl => ?_
    generalize decide (w = 0) = nm
    have sh : ∀ {x : List D}, x.Perm l → ∃ a b c : Rat, cutD x none (some 3) = [fq a, fq b, fq c] ∧ SzR 1100 a ∧ SzR 1100 b ∧ SzR 1100 c := fun {x} p => by
      obtain ⟨a, b, c, d, e, rfl⟩ := five_sh (p.length_eq.trans ll)
      have ax := allq_p hl p
      obtain ⟨a, rfl, za⟩ := ax a (by simp)
      obtain ⟨b, rfl, zb⟩ := ax b (by simp)
      obtain ⟨c, rfl, zc⟩ := ax c (by simp)
      exact ⟨a, b, c, rfl, za, zb, zc⟩
    have mem : ∀ {j : Nat} {d : D}, l[j]? = some d → j < 5 ∧ ∃ r, d = fq r ∧ SzR 1100 r := fun {j d} h => by
      rcases Nat.lt_or_ge j l.length with g | g
      · rw [List.getElem?_eq_getElem g] at h
        cases h
        exact ⟨by omega, hl _ (List.getElem_mem g)⟩
      · rw [List.getElem?_eq_none g] at h; cases h
    refine ⟨fun i δ => ∃ b' nm' x5 x6, δ = [some (.imm (.fz (ns.map D.int))), some (oI (0 + (j : Int))), some (.own none (bxl b')), some (oB nm'), some (.imm (.lst l)), x5, x6, x7, x8] ∧ Bk (41 + 5 * i) b', ⟨b2, nm, x5, x6, rfl, k2⟩, ?_, ?_⟩
    · rintro i d _ hi ⟨b3, nm3, y5, y6, rfl, k3⟩
      obtain ⟨li, a, rfl, za⟩ := mem hi
      refine mixed_i (n := 5) (l := l) k3 (by rw [lineC_eq]; omega) rfl ll (by decide) fun b4 x k4 hx => ?_
      obtain ⟨c1, c2, c3, ec, z1, z2, z3⟩ := sh hx
      have loop : ∀ ds : List D, ds = [fq c1, fq c2, fq c3] → ∃ I : Nat → DSt → Prop, I 0 [some (.imm (.fz (ns.map D.int))), some (oI (0 + (j : Int))), some (.own none (bxl b4)), some (oB nm3), some (.imm (.lst l)), some (oQ a), y6, x7, x8] ∧
          (∀ e d δ2, ds[e]? = some d → I e δ2 → GName 6 d δ2 fun δ3 => TSeq (TIfS (TNot (TTru (TCall sp__law_two_right [false, false, false] (TCons (TVar 5) (TCons (TVar 6) (TCons (TVar 3) TNil)))))) (TRet (TC (.bl false))) TNext) (TSet (TNotV (TVar 3)) (GName 3))
            { nx := I (e + 1), rt := rtE [.imm (.fz (ns.map D.int))] q, bk := fun δ => ∃ b' nm' x5 x6, δ = [some (.imm (.fz (ns.map D.int))), some (oI (0 + (j : Int))), some (.own none (bxl b')), some (oB nm'), some (.imm (.lst l)), x5, x6, x7, x8] ∧ Bk (41 + 5 * (i + 1)) b', ct := I (e + 1) } δ3) ∧
          ∀ δ2, I ds.length δ2 → ∃ b' nm' x5 x6, δ2 = [some (.imm (.fz (ns.map D.int))), some (oI (0 + (j : Int))), some (.own none (bxl b')), some (oB nm'), some (.imm (.lst l)), x5, x6, x7, x8] ∧ Bk (41 + 5 * (i + 1)) b' := by
        rintro _ rfl
        refine ⟨fun e δ => ∃ nm' x6, δ = [some (.imm (.fz (ns.map D.int))), some (oI (0 + (j : Int))), some (.own none (bxl b4)), some (oB nm'), some (.imm (.lst l)), some (oQ a), x6, x7, x8], ⟨nm3, y6, rfl⟩, ?_, ?_⟩
        · rintro e d _ he ⟨nm', z6, rfl⟩
          obtain ⟨r, rfl, zr⟩ : ∃ r, d = fq r ∧ SzR 1100 r := by
            match e, he with
            | 0, he => cases he; exact ⟨_, rfl, z1⟩
            | 1, he => cases he; exact ⟨_, rfl, z2⟩
            | 2, he => cases he; exact ⟨_, rfl, z3⟩
          refine two_i za zr ?_
          exact ⟨!nm', some (oQ r), rfl⟩
        · rintro _ ⟨nm', z6, rfl⟩
          exact ⟨b4, nm', _, _, rfl, k4⟩
      exact loop _ ec
    · rintro _ ⟨b3, nm3, y5, y6, rfl, k3⟩
      rw [ll] at k3
      refine ⟨⟨by decide, by decide⟩, fun i δ => ∃ b' x5 x6 x7 x8, δ = [some (.imm (.fz (ns.map D.int))), some (oI (0 + (j : Int))), some (.own none (bxl b')), some (oB nm3), some (.imm (.lst l)), x5, x6, x7, x8] ∧ Bk (66 + 5 * i) b', ⟨b3, y5, y6, x7, x8, rfl, k3⟩, ?_, ?_⟩
      · rintro i d _ hi ⟨b4, y5, y6, y7, y8, rfl, k4⟩
        obtain ⟨li, rfl⟩ := rngD_get' hi
        have li : i < 4 := li
        refine mixed_i (n := 5) (l := l) k4 (by rw [lineC_eq]; omega) rfl ll (by decide) fun b5 x k5 hx => ?_
        obtain ⟨c1, c2, c3, ec, z1, z2, z3⟩ := sh hx
        have fin : GAny 3 (GCons (GName 5) (GCons (GName 6) (GCons (GName 8) GNil))) (.lst [fq c1, fq c2, fq c3]) [some (.imm (.fz (ns.map D.int))), some (oI (0 + (j : Int))), some (.own none (bxl b5)), some (oB nm3), some (.imm (.lst l)), y5, y6, some (oI (0 + (i : Int))), y8] fun δ =>
            TIfS (TNot (TTru (TCall sp__law_three_right [false, false, false, false] (TCons (TVar 5) (TCons (TVar 6) (TCons (TVar 8) (TCons (TVar 3) TNil))))))) (TRet (TC (.bl false))) TNext
            { nx := fun δ => ∃ b' x5 x6 x7 x8, δ = [some (.imm (.fz (ns.map D.int))), some (oI (0 + (j : Int))), some (.own none (bxl b')), some (oB nm3), some (.imm (.lst l)), x5, x6, x7, x8] ∧ Bk (66 + 5 * (i + 1)) b', rt := rtE [.imm (.fz (ns.map D.int))] q, bk := fun _ => True, ct := fun _ => True } δ := by
          refine three_i z1 z2 z3 ?_
          exact ⟨b5, _, _, _, _, rfl, k5⟩
        rw [← ec] at fin
        exact fin
      · rintro _ ⟨b4, y5, y6, y7, y8, rfl, k4⟩
        have k4 : Bk (66 + 5 * 4) b4 := k4
        refine rows_i k4 (by decide) ll hl fun b5 k5 => ?_
        refine made_i k5 (by decide) fun b6 k6 => ?_
        exact ⟨_, _, _, _, _, _, _, _, rfl⟩
  · rintro _ ⟨x1, x2, x3, x4, x5, x6, x7, x8, rfl⟩
    exact hq
end DL

namespace DL
open PySem L2
def top (i : Nat) : Stmt := PySem.Challenge.pw_ohmwide_k01_whole_fractions_as_a_field.main.body.getD i (.Pass ⟨0, 0, 0, 0⟩)
def N_lowest : List Str := ["top", "bottom", "shared"]
theorem sc_lowest : FnScope N_lowest ["top", "bottom"] (defScope (top 7)) := ⟨rfl, rfl, rfl, by decide +kernel, rfl, by decide +kernel, by decide +kernel⟩
def N_added : List Str := ["one", "other"]
theorem sc_added : FnScope N_added ["one", "other"] (defScope (top 8)) := ⟨rfl, rfl, rfl, by decide +kernel, rfl, by decide +kernel, by decide +kernel⟩
def N_lessened : List Str := ["one", "other"]
theorem sc_lessened : FnScope N_lessened ["one", "other"] (defScope (top 9)) := ⟨rfl, rfl, rfl, by decide +kernel, rfl, by decide +kernel, by decide +kernel⟩
def N_multiplied : List Str := ["one", "other"]
theorem sc_multiplied : FnScope N_multiplied ["one", "other"] (defScope (top 10)) := ⟨rfl, rfl, rfl, by decide +kernel, rfl, by decide +kernel, by decide +kernel⟩
def N_divided : List Str := ["one", "other"]
theorem sc_divided : FnScope N_divided ["one", "other"] (defScope (top 11)) := ⟨rfl, rfl, rfl, by decide +kernel, rfl, by decide +kernel, by decide +kernel⟩
def N_is_less : List Str := ["one", "other"]
theorem sc_is_less : FnScope N_is_less ["one", "other"] (defScope (top 12)) := ⟨rfl, rfl, rfl, by decide +kernel, rfl, by decide +kernel, by decide +kernel⟩
def N_is_integer : List Str := ["value"]
theorem sc_is_integer : FnScope N_is_integer ["value"] (defScope (top 14)) := ⟨rfl, rfl, rfl, by decide +kernel, rfl, by decide +kernel, by decide +kernel⟩
def N_is_tuple : List Str := ["value", "many"]
theorem sc_is_tuple : FnScope N_is_tuple ["value", "many"] (defScope (top 15)) := ⟨rfl, rfl, rfl, by decide +kernel, rfl, by decide +kernel, by decide +kernel⟩
def N_is_fraction : List Str := ["value", "top", "bottom"]
theorem sc_is_fraction : FnScope N_is_fraction ["value"] (defScope (top 17)) := ⟨rfl, rfl, rfl, by decide +kernel, rfl, by decide +kernel, by decide +kernel⟩
def N_check_fractions : List Str := ["one", "other"]
theorem sc_check_fractions : FnScope N_check_fractions ["one", "other"] (defScope (top 18)) := ⟨rfl, rfl, rfl, by decide +kernel, rfl, by decide +kernel, by decide +kernel⟩
def N_fraction : List Str := ["top", "bottom"]
theorem sc_fraction : FnScope N_fraction ["top", "bottom"] (defScope (top 19)) := ⟨rfl, rfl, rfl, by decide +kernel, rfl, by decide +kernel, by decide +kernel⟩
def N_plus : List Str := ["one", "other"]
theorem sc_plus : FnScope N_plus ["one", "other"] (defScope (top 20)) := ⟨rfl, rfl, rfl, by decide +kernel, rfl, by decide +kernel, by decide +kernel⟩
def N_minus : List Str := ["one", "other"]
theorem sc_minus : FnScope N_minus ["one", "other"] (defScope (top 21)) := ⟨rfl, rfl, rfl, by decide +kernel, rfl, by decide +kernel, by decide +kernel⟩
def N_times : List Str := ["one", "other"]
theorem sc_times : FnScope N_times ["one", "other"] (defScope (top 22)) := ⟨rfl, rfl, rfl, by decide +kernel, rfl, by decide +kernel, by decide +kernel⟩
def N_over : List Str := ["one", "other"]
theorem sc_over : FnScope N_over ["one", "other"] (defScope (top 23)) := ⟨rfl, rfl, rfl, by decide +kernel, rfl, by decide +kernel, by decide +kernel⟩
def N_below : List Str := ["one", "other"]
theorem sc_below : FnScope N_below ["one", "other"] (defScope (top 24)) := ⟨rfl, rfl, rfl, by decide +kernel, rfl, by decide +kernel, by decide +kernel⟩
def N__law_cell : List Str := ["script", "k"]
theorem sc__law_cell : FnScope N__law_cell ["script", "k"] (defScope (top 26)) := ⟨rfl, rfl, rfl, by decide +kernel, rfl, by decide +kernel, by decide +kernel⟩
def N__law_box : List Str := ["great"]
theorem sc__law_box : FnScope N__law_box ["great"] (defScope (top 27)) := ⟨rfl, rfl, rfl, by decide +kernel, rfl, by decide +kernel, by decide +kernel⟩
def N__law_take : List Str := ["box", "many", "digit", "stirred"]
theorem sc__law_take : FnScope N__law_take ["box", "many"] (defScope (top 28)) := ⟨rfl, rfl, rfl, by decide +kernel, rfl, by decide +kernel, by decide +kernel⟩
def N__law_pick : List Str := ["box", "items"]
theorem sc__law_pick : FnScope N__law_pick ["box", "items"] (defScope (top 29)) := ⟨rfl, rfl, rfl, by decide +kernel, rfl, by decide +kernel, by decide +kernel⟩
def N__law_mixed : List Str := ["box", "items", "left", "found", "turn"]
theorem sc__law_mixed : FnScope N__law_mixed ["box", "items"] (defScope (top 30)) := ⟨rfl, rfl, rfl, by decide +kernel, rfl, by decide +kernel, by decide +kernel⟩
def N__law_same : List Str := ["given", "due", "k"]
theorem sc__law_same : FnScope N__law_same ["given", "due"] (defScope (top 31)) := ⟨rfl, rfl, rfl, by decide +kernel, rfl, by decide +kernel, by decide +kernel⟩
def N__law_low : List Str := ["top", "bottom", "one", "other", "sign"]
theorem sc__law_low : FnScope N__law_low ["top", "bottom"] (defScope (top 32)) := ⟨rfl, rfl, rfl, by decide +kernel, rfl, by decide +kernel, by decide +kernel⟩
def N__law_plus : List Str := ["one", "other"]
theorem sc__law_plus : FnScope N__law_plus ["one", "other"] (defScope (top 33)) := ⟨rfl, rfl, rfl, by decide +kernel, rfl, by decide +kernel, by decide +kernel⟩
def N__law_minus : List Str := ["one", "other"]
theorem sc__law_minus : FnScope N__law_minus ["one", "other"] (defScope (top 34)) := ⟨rfl, rfl, rfl, by decide +kernel, rfl, by decide +kernel, by decide +kernel⟩
def N__law_times : List Str := ["one", "other"]
theorem sc__law_times : FnScope N__law_times ["one", "other"] (defScope (top 35)) := ⟨rfl, rfl, rfl, by decide +kernel, rfl, by decide +kernel, by decide +kernel⟩
def N__law_over : List Str := ["one", "other"]
theorem sc__law_over : FnScope N__law_over ["one", "other"] (defScope (top 36)) := ⟨rfl, rfl, rfl, by decide +kernel, rfl, by decide +kernel, by decide +kernel⟩
def N__law_less : List Str := ["one", "other"]
theorem sc__law_less : FnScope N__law_less ["one", "other"] (defScope (top 37)) := ⟨rfl, rfl, rfl, by decide +kernel, rfl, by decide +kernel, by decide +kernel⟩
def N__law_sum : List Str := ["items", "found", "item"]
theorem sc__law_sum : FnScope N__law_sum ["items"] (defScope (top 38)) := ⟨rfl, rfl, rfl, by decide +kernel, rfl, by decide +kernel, by decide +kernel⟩
def N__law_number : List Str := ["box", "great", "way"]
theorem sc__law_number : FnScope N__law_number ["box", "great"] (defScope (top 39)) := ⟨rfl, rfl, rfl, by decide +kernel, rfl, by decide +kernel, by decide +kernel⟩
def N__law_power : List Str := ["many", "found", "turn"]
theorem sc__law_power : FnScope N__law_power ["many"] (defScope (top 40)) := ⟨rfl, rfl, rfl, by decide +kernel, rfl, by decide +kernel, by decide +kernel⟩
def N__law_great : List Str := ["box", "way", "many", "found"]
theorem sc__law_great : FnScope N__law_great ["box"] (defScope (top 41)) := ⟨rfl, rfl, rfl, by decide +kernel, rfl, by decide +kernel, by decide +kernel⟩
def N__law_five : List Str := ["box", "found", "near", "more"]
theorem sc__law_five : FnScope N__law_five ["box"] (defScope (top 42)) := ⟨rfl, rfl, rfl, by decide +kernel, rfl, by decide +kernel, by decide +kernel⟩
def N__law_two_right : List Str := ["one", "other", "named", "told", "back", "due", "three", "flag"]
theorem sc__law_two_right : FnScope N__law_two_right ["one", "other", "named"] (defScope (top 43)) := ⟨rfl, rfl, rfl, by decide +kernel, rfl, by decide +kernel, by decide +kernel⟩
def N__law_three_right : List Str := ["a", "b", "c", "named", "left", "right", "due"]
theorem sc__law_three_right : FnScope N__law_three_right ["a", "b", "c", "named"] (defScope (top 44)) := ⟨rfl, rfl, rfl, by decide +kernel, rfl, by decide +kernel, by decide +kernel⟩
def N__law_rows_right : List Str := ["box", "five", "named", "row", "one", "at", "many", "total", "product", "k", "other"]
theorem sc__law_rows_right : FnScope N__law_rows_right ["box", "five", "named"] (defScope (top 45)) := ⟨rfl, rfl, rfl, by decide +kernel, rfl, by decide +kernel, by decide +kernel⟩
def N__law_made_right : List Str := ["box", "named", "turn", "common", "top", "bottom", "told"]
theorem sc__law_made_right : FnScope N__law_made_right ["box", "named"] (defScope (top 46)) := ⟨rfl, rfl, rfl, by decide +kernel, rfl, by decide +kernel, by decide +kernel⟩
def N_law : List Str := ["script", "k", "box", "named", "five", "a", "b", "turn", "c"]
theorem sc_law : FnScope N_law ["script"] (defScope (top 47)) := ⟨rfl, rfl, rfl, by decide +kernel, rfl, by decide +kernel, by decide +kernel⟩

structure Adr where
  f_lowest : Addr
  d_lowest : FuncData
  f_added : Addr
  d_added : FuncData
  f_lessened : Addr
  d_lessened : FuncData
  f_multiplied : Addr
  d_multiplied : FuncData
  f_divided : Addr
  d_divided : FuncData
  f_is_less : Addr
  d_is_less : FuncData
  f_is_integer : Addr
  d_is_integer : FuncData
  f_is_tuple : Addr
  d_is_tuple : FuncData
  f_is_fraction : Addr
  d_is_fraction : FuncData
  f_check_fractions : Addr
  d_check_fractions : FuncData
  f_fraction : Addr
  d_fraction : FuncData
  f_plus : Addr
  d_plus : FuncData
  f_minus : Addr
  d_minus : FuncData
  f_times : Addr
  d_times : FuncData
  f_over : Addr
  d_over : FuncData
  f_below : Addr
  d_below : FuncData
  f__law_cell : Addr
  d__law_cell : FuncData
  f__law_box : Addr
  d__law_box : FuncData
  f__law_take : Addr
  d__law_take : FuncData
  f__law_pick : Addr
  d__law_pick : FuncData
  f__law_mixed : Addr
  d__law_mixed : FuncData
  f__law_same : Addr
  d__law_same : FuncData
  f__law_low : Addr
  d__law_low : FuncData
  f__law_plus : Addr
  d__law_plus : FuncData
  f__law_minus : Addr
  d__law_minus : FuncData
  f__law_times : Addr
  d__law_times : FuncData
  f__law_over : Addr
  d__law_over : FuncData
  f__law_less : Addr
  d__law_less : FuncData
  f__law_sum : Addr
  d__law_sum : FuncData
  f__law_number : Addr
  d__law_number : FuncData
  f__law_power : Addr
  d__law_power : FuncData
  f__law_great : Addr
  d__law_great : FuncData
  f__law_five : Addr
  d__law_five : FuncData
  f__law_two_right : Addr
  d__law_two_right : FuncData
  f__law_three_right : Addr
  d__law_three_right : FuncData
  f__law_rows_right : Addr
  d__law_rows_right : FuncData
  f__law_made_right : Addr
  d__law_made_right : FuncData
  f_law : Addr
  d_law : FuncData
  c_ZERO : Addr
structure Txt (K : PySem.W.Frag) (mg : Str → Option Value) (a : Adr) : Prop where
  F_lowest : Fun K "lowest" "lowest" (top 7) a.f_lowest a.d_lowest
  g_lowest : mg "lowest" = some (.ref a.f_lowest)
  F_added : Fun K "added" "added" (top 8) a.f_added a.d_added
  g_added : mg "added" = some (.ref a.f_added)
  F_lessened : Fun K "lessened" "lessened" (top 9) a.f_lessened a.d_lessened
  g_lessened : mg "lessened" = some (.ref a.f_lessened)
  F_multiplied : Fun K "multiplied" "multiplied" (top 10) a.f_multiplied a.d_multiplied
  g_multiplied : mg "multiplied" = some (.ref a.f_multiplied)
  F_divided : Fun K "divided" "divided" (top 11) a.f_divided a.d_divided
  g_divided : mg "divided" = some (.ref a.f_divided)
  F_is_less : Fun K "is_less" "is_less" (top 12) a.f_is_less a.d_is_less
  g_is_less : mg "is_less" = some (.ref a.f_is_less)
  F_is_integer : Fun K "is_integer" "is_integer" (top 14) a.f_is_integer a.d_is_integer
  g_is_integer : mg "is_integer" = some (.ref a.f_is_integer)
  F_is_tuple : Fun K "is_tuple" "is_tuple" (top 15) a.f_is_tuple a.d_is_tuple
  g_is_tuple : mg "is_tuple" = some (.ref a.f_is_tuple)
  F_is_fraction : Fun K "is_fraction" "is_fraction" (top 17) a.f_is_fraction a.d_is_fraction
  g_is_fraction : mg "is_fraction" = some (.ref a.f_is_fraction)
  F_check_fractions : Fun K "check_fractions" "check_fractions" (top 18) a.f_check_fractions a.d_check_fractions
  g_check_fractions : mg "check_fractions" = some (.ref a.f_check_fractions)
  F_fraction : Fun K "fraction" "fraction" (top 19) a.f_fraction a.d_fraction
  g_fraction : mg "fraction" = some (.ref a.f_fraction)
  F_plus : Fun K "plus" "plus" (top 20) a.f_plus a.d_plus
  g_plus : mg "plus" = some (.ref a.f_plus)
  F_minus : Fun K "minus" "minus" (top 21) a.f_minus a.d_minus
  g_minus : mg "minus" = some (.ref a.f_minus)
  F_times : Fun K "times" "times" (top 22) a.f_times a.d_times
  g_times : mg "times" = some (.ref a.f_times)
  F_over : Fun K "over" "over" (top 23) a.f_over a.d_over
  g_over : mg "over" = some (.ref a.f_over)
  F_below : Fun K "below" "below" (top 24) a.f_below a.d_below
  g_below : mg "below" = some (.ref a.f_below)
  F__law_cell : Fun K "_law_cell" "_law_cell" (top 26) a.f__law_cell a.d__law_cell
  g__law_cell : mg "_law_cell" = some (.ref a.f__law_cell)
  F__law_box : Fun K "_law_box" "_law_box" (top 27) a.f__law_box a.d__law_box
  g__law_box : mg "_law_box" = some (.ref a.f__law_box)
  F__law_take : Fun K "_law_take" "_law_take" (top 28) a.f__law_take a.d__law_take
  g__law_take : mg "_law_take" = some (.ref a.f__law_take)
  F__law_pick : Fun K "_law_pick" "_law_pick" (top 29) a.f__law_pick a.d__law_pick
  g__law_pick : mg "_law_pick" = some (.ref a.f__law_pick)
  F__law_mixed : Fun K "_law_mixed" "_law_mixed" (top 30) a.f__law_mixed a.d__law_mixed
  g__law_mixed : mg "_law_mixed" = some (.ref a.f__law_mixed)
  F__law_same : Fun K "_law_same" "_law_same" (top 31) a.f__law_same a.d__law_same
  g__law_same : mg "_law_same" = some (.ref a.f__law_same)
  F__law_low : Fun K "_law_low" "_law_low" (top 32) a.f__law_low a.d__law_low
  g__law_low : mg "_law_low" = some (.ref a.f__law_low)
  F__law_plus : Fun K "_law_plus" "_law_plus" (top 33) a.f__law_plus a.d__law_plus
  g__law_plus : mg "_law_plus" = some (.ref a.f__law_plus)
  F__law_minus : Fun K "_law_minus" "_law_minus" (top 34) a.f__law_minus a.d__law_minus
  g__law_minus : mg "_law_minus" = some (.ref a.f__law_minus)
  F__law_times : Fun K "_law_times" "_law_times" (top 35) a.f__law_times a.d__law_times
  g__law_times : mg "_law_times" = some (.ref a.f__law_times)
  F__law_over : Fun K "_law_over" "_law_over" (top 36) a.f__law_over a.d__law_over
  g__law_over : mg "_law_over" = some (.ref a.f__law_over)
  F__law_less : Fun K "_law_less" "_law_less" (top 37) a.f__law_less a.d__law_less
  g__law_less : mg "_law_less" = some (.ref a.f__law_less)
  F__law_sum : Fun K "_law_sum" "_law_sum" (top 38) a.f__law_sum a.d__law_sum
  g__law_sum : mg "_law_sum" = some (.ref a.f__law_sum)
  F__law_number : Fun K "_law_number" "_law_number" (top 39) a.f__law_number a.d__law_number
  g__law_number : mg "_law_number" = some (.ref a.f__law_number)
  F__law_power : Fun K "_law_power" "_law_power" (top 40) a.f__law_power a.d__law_power
  g__law_power : mg "_law_power" = some (.ref a.f__law_power)
  F__law_great : Fun K "_law_great" "_law_great" (top 41) a.f__law_great a.d__law_great
  g__law_great : mg "_law_great" = some (.ref a.f__law_great)
  F__law_five : Fun K "_law_five" "_law_five" (top 42) a.f__law_five a.d__law_five
  g__law_five : mg "_law_five" = some (.ref a.f__law_five)
  F__law_two_right : Fun K "_law_two_right" "_law_two_right" (top 43) a.f__law_two_right a.d__law_two_right
  g__law_two_right : mg "_law_two_right" = some (.ref a.f__law_two_right)
  F__law_three_right : Fun K "_law_three_right" "_law_three_right" (top 44) a.f__law_three_right a.d__law_three_right
  g__law_three_right : mg "_law_three_right" = some (.ref a.f__law_three_right)
  F__law_rows_right : Fun K "_law_rows_right" "_law_rows_right" (top 45) a.f__law_rows_right a.d__law_rows_right
  g__law_rows_right : mg "_law_rows_right" = some (.ref a.f__law_rows_right)
  F__law_made_right : Fun K "_law_made_right" "_law_made_right" (top 46) a.f__law_made_right a.d__law_made_right
  g__law_made_right : mg "_law_made_right" = some (.ref a.f__law_made_right)
  F_law : Fun K "law" "law" (top 47) a.f_law a.d_law
  g_law : mg "law" = some (.ref a.f_law)
  c_ZERO : mg "ZERO" = some (.ref a.c_ZERO)
  z_ZERO : ∀ H M, Rp K H M (.tup [(.int 0), (.int 1)]) (.ref a.c_ZERO)
  n_abs : mg "abs" = none
  n_bool : mg "bool" = none
  n_int : mg "int" = none
  n_isinstance : mg "isinstance" = none
  n_len : mg "len" = none
  n_list : mg "list" = none
  n_max : mg "max" = none
  n_min : mg "min" = none
  n_range : mg "range" = none
  n_str : mg "str" = none
  n_sum : mg "sum" = none
  n_tuple : mg "tuple" = none
  g_gcd : mg "gcd" = some (.builtin "math.gcd")
section
variable {K : PySem.W.Frag} {mg : Str → Option Value} {a : Adr}
theorem b_lowest (C : Txt K mg a) : Binds K a.d_lowest ["top", "bottom"] [] := C.F_lowest.binds fun _ _ _ _ _ _ us hl => match us, hl with | [_, _], _ => rfl
theorem b_added (C : Txt K mg a) : Binds K a.d_added ["one", "other"] [] := C.F_added.binds fun _ _ _ _ _ _ us hl => match us, hl with | [_, _], _ => rfl
theorem b_lessened (C : Txt K mg a) : Binds K a.d_lessened ["one", "other"] [] := C.F_lessened.binds fun _ _ _ _ _ _ us hl => match us, hl with | [_, _], _ => rfl
theorem b_multiplied (C : Txt K mg a) : Binds K a.d_multiplied ["one", "other"] [] := C.F_multiplied.binds fun _ _ _ _ _ _ us hl => match us, hl with | [_, _], _ => rfl
theorem b_divided (C : Txt K mg a) : Binds K a.d_divided ["one", "other"] [] := C.F_divided.binds fun _ _ _ _ _ _ us hl => match us, hl with | [_, _], _ => rfl
theorem b_is_less (C : Txt K mg a) : Binds K a.d_is_less ["one", "other"] [] := C.F_is_less.binds fun _ _ _ _ _ _ us hl => match us, hl with | [_, _], _ => rfl
theorem b_is_integer (C : Txt K mg a) : Binds K a.d_is_integer ["value"] [] := C.F_is_integer.binds fun _ _ _ _ _ _ us hl => match us, hl with | [_], _ => rfl
theorem b_is_tuple (C : Txt K mg a) : Binds K a.d_is_tuple ["value", "many"] [] := C.F_is_tuple.binds fun _ _ _ _ _ _ us hl => match us, hl with | [_, _], _ => rfl
theorem b_is_fraction (C : Txt K mg a) : Binds K a.d_is_fraction ["value"] [] := C.F_is_fraction.binds fun _ _ _ _ _ _ us hl => match us, hl with | [_], _ => rfl
theorem b_check_fractions (C : Txt K mg a) : Binds K a.d_check_fractions ["one", "other"] [] := C.F_check_fractions.binds fun _ _ _ _ _ _ us hl => match us, hl with | [_, _], _ => rfl
theorem b_fraction (C : Txt K mg a) : Binds K a.d_fraction ["top", "bottom"] [] := C.F_fraction.binds fun _ _ _ _ _ _ us hl => match us, hl with | [_, _], _ => rfl
theorem b_plus (C : Txt K mg a) : Binds K a.d_plus ["one", "other"] [] := C.F_plus.binds fun _ _ _ _ _ _ us hl => match us, hl with | [_, _], _ => rfl
theorem b_minus (C : Txt K mg a) : Binds K a.d_minus ["one", "other"] [] := C.F_minus.binds fun _ _ _ _ _ _ us hl => match us, hl with | [_, _], _ => rfl
theorem b_times (C : Txt K mg a) : Binds K a.d_times ["one", "other"] [] := C.F_times.binds fun _ _ _ _ _ _ us hl => match us, hl with | [_, _], _ => rfl
theorem b_over (C : Txt K mg a) : Binds K a.d_over ["one", "other"] [] := C.F_over.binds fun _ _ _ _ _ _ us hl => match us, hl with | [_, _], _ => rfl
theorem b_below (C : Txt K mg a) : Binds K a.d_below ["one", "other"] [] := C.F_below.binds fun _ _ _ _ _ _ us hl => match us, hl with | [_, _], _ => rfl
theorem b__law_cell (C : Txt K mg a) : Binds K a.d__law_cell ["script", "k"] [] := C.F__law_cell.binds fun _ _ _ _ _ _ us hl => match us, hl with | [_, _], _ => rfl
theorem b__law_box (C : Txt K mg a) : Binds K a.d__law_box ["great"] [] := C.F__law_box.binds fun _ _ _ _ _ _ us hl => match us, hl with | [_], _ => rfl
theorem b__law_take (C : Txt K mg a) : Binds K a.d__law_take ["box", "many"] [] := C.F__law_take.binds fun _ _ _ _ _ _ us hl => match us, hl with | [_, _], _ => rfl
theorem b__law_pick (C : Txt K mg a) : Binds K a.d__law_pick ["box", "items"] [] := C.F__law_pick.binds fun _ _ _ _ _ _ us hl => match us, hl with | [_, _], _ => rfl
theorem b__law_mixed (C : Txt K mg a) : Binds K a.d__law_mixed ["box", "items"] [] := C.F__law_mixed.binds fun _ _ _ _ _ _ us hl => match us, hl with | [_, _], _ => rfl
theorem b__law_same (C : Txt K mg a) : Binds K a.d__law_same ["given", "due"] [] := C.F__law_same.binds fun _ _ _ _ _ _ us hl => match us, hl with | [_, _], _ => rfl
theorem b__law_low (C : Txt K mg a) : Binds K a.d__law_low ["top", "bottom"] [] := C.F__law_low.binds fun _ _ _ _ _ _ us hl => match us, hl with | [_, _], _ => rfl
theorem b__law_plus (C : Txt K mg a) : Binds K a.d__law_plus ["one", "other"] [] := C.F__law_plus.binds fun _ _ _ _ _ _ us hl => match us, hl with | [_, _], _ => rfl
theorem b__law_minus (C : Txt K mg a) : Binds K a.d__law_minus ["one", "other"] [] := C.F__law_minus.binds fun _ _ _ _ _ _ us hl => match us, hl with | [_, _], _ => rfl
theorem b__law_times (C : Txt K mg a) : Binds K a.d__law_times ["one", "other"] [] := C.F__law_times.binds fun _ _ _ _ _ _ us hl => match us, hl with | [_, _], _ => rfl
theorem b__law_over (C : Txt K mg a) : Binds K a.d__law_over ["one", "other"] [] := C.F__law_over.binds fun _ _ _ _ _ _ us hl => match us, hl with | [_, _], _ => rfl
theorem b__law_less (C : Txt K mg a) : Binds K a.d__law_less ["one", "other"] [] := C.F__law_less.binds fun _ _ _ _ _ _ us hl => match us, hl with | [_, _], _ => rfl
theorem b__law_sum (C : Txt K mg a) : Binds K a.d__law_sum ["items"] [] := C.F__law_sum.binds fun _ _ _ _ _ _ us hl => match us, hl with | [_], _ => rfl
theorem b__law_number (C : Txt K mg a) : Binds K a.d__law_number ["box", "great"] [] := C.F__law_number.binds fun _ _ _ _ _ _ us hl => match us, hl with | [_, _], _ => rfl
theorem b__law_power (C : Txt K mg a) : Binds K a.d__law_power ["many"] [] := C.F__law_power.binds fun _ _ _ _ _ _ us hl => match us, hl with | [_], _ => rfl
theorem b__law_great (C : Txt K mg a) : Binds K a.d__law_great ["box"] [] := C.F__law_great.binds fun _ _ _ _ _ _ us hl => match us, hl with | [_], _ => rfl
theorem b__law_five (C : Txt K mg a) : Binds K a.d__law_five ["box"] [] := C.F__law_five.binds fun _ _ _ _ _ _ us hl => match us, hl with | [_], _ => rfl
theorem b__law_two_right (C : Txt K mg a) : Binds K a.d__law_two_right ["one", "other", "named"] [] := C.F__law_two_right.binds fun _ _ _ _ _ _ us hl => match us, hl with | [_, _, _], _ => rfl
theorem b__law_three_right (C : Txt K mg a) : Binds K a.d__law_three_right ["a", "b", "c", "named"] [] := C.F__law_three_right.binds fun _ _ _ _ _ _ us hl => match us, hl with | [_, _, _, _], _ => rfl
theorem b__law_rows_right (C : Txt K mg a) : Binds K a.d__law_rows_right ["box", "five", "named"] [] := C.F__law_rows_right.binds fun _ _ _ _ _ _ us hl => match us, hl with | [_, _, _], _ => rfl
theorem b__law_made_right (C : Txt K mg a) : Binds K a.d__law_made_right ["box", "named"] [] := C.F__law_made_right.binds fun _ _ _ _ _ _ us hl => match us, hl with | [_, _], _ => rfl
theorem b_law (C : Txt K mg a) : Binds K a.d_law ["script"] [] := C.F_law.binds fun _ _ _ _ _ _ us hl => match us, hl with | [_], _ => rfl
end

theorem ok_lowest {P : Program} {w : World} {K : PySem.W.Frag} {mg : Str → Option Value} {base : Heap} {a : Adr} (C : Txt K mg a) : FnOk P w K mg base CX0 1 a.f_lowest a.d_lowest ["top", "bottom"] (lift K sp_lowest) := by
  refine dfn C.F_lowest sc_lowest (len_F fun _ => rfl) fun cdv A outer s H E Φ hr => ⟨_, T_lowest, (pss_cons (ps_set (i := 2) sc_lowest.nd rfl (Or.inl rfl) (pe_ifExp (pt_cmpR op_gt (pv 1) pe_int (nomark _)) (pe_callBfun cr_gcd (by rfl) C.g_gcd (pa_cons (pv 0) (pa_cons (pv 1) pa_nil))) (pe_un un_neg (pe_callBfun cr_gcd (by rfl) C.g_gcd (pa_cons (pv 0) (pa_cons (pv 1) pa_nil))))))
      (pss_one (ps_ret (pe_tup (pa_cons (pe_op op_fdivX (pv 0) (pv 2)) (pa_cons (pe_op op_fdivX (pv 1) (pv 2)) pa_nil)))))),
    (sim_seq (sim_set (sim_if (sim_test (sim_op ou_cmp sim_var sim_int)) (sim_cb cu_gcd (sim_cons sim_var (sim_cons sim_var sim_nil))) (sim_un uu_neg (sim_cb cu_gcd (sim_cons sim_var (sim_cons sim_var sim_nil))))) sim_gname)
      (sim_ret (sim_tup (sim_cons (sim_op ou_I sim_var sim_var) (sim_cons (sim_op ou_I sim_var sim_var) sim_nil))))), rd_lowest⟩

theorem ok_is_less {P : Program} {w : World} {K : PySem.W.Frag} {mg : Str → Option Value} {base : Heap} {a : Adr} (C : Txt K mg a) : FnOk P w K mg base CX0 1 a.f_is_less a.d_is_less ["one", "other"] (lift K sp_is_less) := by
  refine dfn C.F_is_less sc_is_less (len_F fun _ => rfl) fun cdv A outer s H E Φ hr => ⟨_, T_is_less, (pss_one (ps_ret (pe_cmpR op_lt (pe_op op_mulU (pe_ix ix_seq (pv 0) pe_int (fun _ _ => rfl)) (pe_ix ix_seq (pv 1) pe_int (fun _ _ => rfl))) (pe_op op_mulU (pe_ix ix_seq (pv 1) pe_int (fun _ _ => rfl)) (pe_ix ix_seq (pv 0) pe_int (fun _ _ => rfl))) (nomark _)))),
    (sim_ret (sim_op ou_cmp (sim_op ou_mul (sim_op ou_ix sim_var sim_int) (sim_op ou_ix sim_var sim_int)) (sim_op ou_mul (sim_op ou_ix sim_var sim_int) (sim_op ou_ix sim_var sim_int)))), rd_is_less⟩

theorem ok_is_integer {P : Program} {w : World} {K : PySem.W.Frag} {mg : Str → Option Value} {base : Heap} {a : Adr} (C : Txt K mg a) : FnOk P w K mg base CX0 1 a.f_is_integer a.d_is_integer ["value"] (lift K sp_is_integer) := by
  refine dfn C.F_is_integer sc_is_integer (len_F fun _ => rfl) fun cdv A outer s H E Φ hr => ⟨_, T_is_integer, (pss_one (ps_ret (pe_and (pe_callB call_isi (by rfl) C.n_isinstance (by decide +kernel) (pa_cons (pv 0) (pa_cons (pe_bltn (v := .ty "int") rfl C.n_int (by decide +kernel) rfl) pa_nil))) (pe_one (pe_not (pe_callB call_isi (by rfl) C.n_isinstance (by decide +kernel) (pa_cons (pv 0) (pa_cons (pe_bltn (v := .ty "bool") rfl C.n_bool (by decide +kernel) rfl) pa_nil)))))))),
    (sim_ret (sim_andv (sim_cb cu_isi (sim_cons sim_var (sim_cons (sim_c (d := .ty .int) fun _ _ => rfl) sim_nil))) (sim_notv (sim_cb cu_isi (sim_cons sim_var (sim_cons (sim_c (d := .ty .bool) fun _ _ => rfl) sim_nil)))))), rd_is_integer⟩

theorem ok_is_tuple {P : Program} {w : World} {K : PySem.W.Frag} {mg : Str → Option Value} {base : Heap} {a : Adr} (C : Txt K mg a) : FnOk P w K mg base CX0 1 a.f_is_tuple a.d_is_tuple ["value", "many"] (lift K sp_is_tuple) := by
  refine dfn C.F_is_tuple sc_is_tuple (len_F fun _ => rfl) fun cdv A outer s H E Φ hr => ⟨_, T_is_tuple, (pss_one (ps_ret (pe_and (pe_callB call_isi (by rfl) C.n_isinstance (by decide +kernel) (pa_cons (pv 0) (pa_cons (pe_bltn (v := .ty "tuple") rfl C.n_tuple (by decide +kernel) rfl) pa_nil))) (pe_one (pe_cmpR (op_eqD hr.units) (pe_callB call_len_seq (by rfl) C.n_len PySem.boot_len (pa_cons (pv 0) pa_nil)) (pv 1) (nomark _)))))),
    (sim_ret (sim_andv (sim_cb cu_isi (sim_cons sim_var (sim_cons (sim_c (d := .ty .tuple) fun _ _ => rfl) sim_nil))) (sim_op ou_eq (sim_cb cu_len (sim_cons sim_var sim_nil)) sim_var))), rd_is_tuple⟩

theorem ok__law_cell {P : Program} {w : World} {K : PySem.W.Frag} {mg : Str → Option Value} {base : Heap} {a : Adr} (C : Txt K mg a) : FnOk P w K mg base CX0 1 a.f__law_cell a.d__law_cell ["script", "k"] (lift K sp__law_cell) := by
  refine dfn C.F__law_cell sc__law_cell (len_R fun _ => rfl) fun cdv A outer s H E Φ hr => ⟨_, T__law_cell, (pss_one (ps_ret (pe_ifExp (pt_cmpR op_lt (pv 1) (pe_callB call_len_seq (by rfl) C.n_len PySem.boot_len (pa_cons (pv 0) pa_nil)) (nomark _)) (pe_ix ix_seq (pv 0) (pv 1) (fun _ _ => rfl)) (pe_op op_addU (pe_op op_mulU pe_int (pv 1)) (pe_op op_mod (pe_callTy call_int1 (by rfl) C.n_int (by decide +kernel) (pa_cons (pe_callB (cr_sum rfl) (by rfl) C.n_sum (by decide +kernel) (pa_cons (pe_slice sl_list (pv 0) po_none (po_some pe_int)) pa_nil)) pa_nil)) pe_int))))),
    (sim_ret (sim_if (sim_test (sim_op ou_cmp sim_var (sim_cb cu_len (sim_cons sim_var sim_nil)))) (sim_op ou_ixS sim_var sim_var) (sim_op ou_add (sim_op ou_mul sim_int sim_var) (sim_op ou_I (sim_cb cu_int (sim_cons (sim_cb cu_sum (sim_cons (sim_slL sim_var sim_nopart (sim_part sim_int)) sim_nil)) sim_nil)) sim_int)))), rd__law_cell⟩

theorem ok__law_box {P : Program} {w : World} {K : PySem.W.Frag} {mg : Str → Option Value} {base : Heap} {a : Adr} (C : Txt K mg a) : FnOk P w K mg base CX0 1 a.f__law_box a.d__law_box ["great"] (lift K sp__law_box) := by
  refine dfn C.F__law_box sc__law_box (len_R fun _ => rfl) fun cdv A outer s H E Φ hr => ⟨_, T__law_box, (pss_one (ps_ret (pe_lst (pa_cons (pe_callB call_abs (by rfl) C.n_abs PyProof.Rows.boot_abs (pa_cons (pv 0) pa_nil)) (pa_cons (pe_cmpR op_ge (pe_callB call_abs (by rfl) C.n_abs PyProof.Rows.boot_abs (pa_cons (pv 0) pa_nil)) (pe_op op_pow pe_int pe_int) (nomark _)) (pa_cons (pe_op op_mod (pe_callTy call_int1 (by rfl) C.n_int (by decide +kernel) (pa_cons (pe_callB call_abs (by rfl) C.n_abs PyProof.Rows.boot_abs (pa_cons (pv 0) pa_nil)) pa_nil)) pe_int) (pa_cons pe_int pa_nil))))))),
    (sim_ret (sim_lst (sim_cons (sim_cb cu_abs (sim_cons sim_var sim_nil)) (sim_cons (sim_op ou_cmp (sim_cb cu_abs (sim_cons sim_var sim_nil)) (sim_op ou_I sim_int sim_int)) (sim_cons (sim_op ou_I (sim_cb cu_int (sim_cons (sim_cb cu_abs (sim_cons sim_var sim_nil)) sim_nil)) sim_int) (sim_cons sim_int sim_nil)))))), rd__law_box⟩

theorem ok__law_take {P : Program} {w : World} {K : PySem.W.Frag} {mg : Str → Option Value} {base : Heap} {a : Adr} (C : Txt K mg a) : FnOk P w K mg base CX0 1 a.f__law_take a.d__law_take ["box", "many"] (lift K sp__law_take) := by
  refine dfn C.F__law_take sc__law_take (len_R fun _ => rfl) fun cdv A outer s H E Φ hr => ⟨_, T__law_take, (pss_cons (ps_if (PW.pt (pw_and (pt_truth (pe_ix ix_seq (pv 0) pe_int (fun _ _ => rfl)) (fun _ => rfl)) (pw_and1 (pt_cmpR op_gt (pe_ix ix_seq (pv 0) pe_int (fun _ _ => rfl)) pe_int (nomark _))))) (pss_cons (ps_set (i := 2) sc__law_take.nd rfl (Or.inl rfl) (pe_op op_mod (pe_callTy call_int1 (by rfl) C.n_int (by decide +kernel) (pa_cons (pe_ix ix_seq (pv 0) pe_int (fun _ _ => rfl)) pa_nil)) (pv 1)))
      (pss_cons (ps_asg (pe_op op_fdivX (pe_callTy call_int1 (by rfl) C.n_int (by decide +kernel) (pa_cons (pe_ix ix_seq (pv 0) pe_int (fun _ _ => rfl)) pa_nil)) (pv 1)) (pg_sub (pv 0) pe_int set_list))
      (pss_one (ps_ret (pv 2))))) pss_nil)
      (pss_cons (ps_asg (pe_op op_addU (pe_ix ix_seq (pv 0) pe_int (fun _ _ => rfl)) pe_int) (pg_sub (pv 0) pe_int set_list))
      (pss_cons (ps_set (i := 3) sc__law_take.nd rfl (Or.inl rfl) (pe_op op_mod (pe_callTy call_int1 (by rfl) C.n_int (by decide +kernel) (pa_cons (pe_op op_pow (pe_op op_addU (pe_op op_addU (pe_ix ix_seq (pv 0) pe_int (fun _ _ => rfl)) (pe_op op_mulU pe_int (pe_ix ix_seq (pv 0) pe_int (fun _ _ => rfl)))) pe_int) pe_int) pa_nil)) pe_int))
      (pss_one (ps_ret (pe_op op_mod (pe_callTy call_int1 (by rfl) C.n_int (by decide +kernel) (pa_cons (pe_op op_fdivX (pe_op op_mod (pe_callTy call_int1 (by rfl) C.n_int (by decide +kernel) (pa_cons (pe_op op_pow (pe_op op_addU (pe_op op_mulU (pv 3) pe_int) (pe_op op_mulU pe_int (pe_ix ix_seq (pv 0) pe_int (fun _ _ => rfl)))) pe_int) pa_nil)) pe_int) pe_int) pa_nil)) (pv 1))))))),
    (sim_seq (sim_ifs (sim_and (sim_tru (sim_op ou_ix sim_var sim_int)) (sim_test (sim_op ou_cmp (sim_op ou_ix sim_var sim_int) sim_int))) (sim_seq (sim_set (sim_op ou_I (sim_cb cu_int (sim_cons (sim_op ou_ix sim_var sim_int) sim_nil)) sim_var) sim_gname)
      (sim_seq (sim_setIx (sim_op ou_I (sim_cb cu_int (sim_cons (sim_op ou_ix sim_var sim_int) sim_nil)) sim_var) sim_int)
      (sim_ret sim_var))) sim_next)
      (sim_seq (sim_setIx (sim_op ou_add (sim_op ou_ix sim_var sim_int) sim_int) sim_int)
      (sim_seq (sim_set (sim_op ou_I (sim_cb cu_int (sim_cons (sim_op ou_I (sim_op ou_add (sim_op ou_add (sim_op ou_ix sim_var sim_int) (sim_op ou_mul sim_int (sim_op ou_ix sim_var sim_int))) sim_int) sim_int) sim_nil)) sim_int) sim_gname)
      (sim_ret (sim_op ou_I (sim_cb cu_int (sim_cons (sim_op ou_I (sim_op ou_I (sim_cb cu_int (sim_cons (sim_op ou_I (sim_op ou_add (sim_op ou_mul sim_var sim_int) (sim_op ou_mul sim_int (sim_op ou_ix sim_var sim_int))) sim_int) sim_nil)) sim_int) sim_int) sim_nil)) sim_var))))), rd__law_take⟩

theorem ok__law_low {P : Program} {w : World} {K : PySem.W.Frag} {mg : Str → Option Value} {base : Heap} {a : Adr} (C : Txt K mg a) : FnOk P w K mg base CX0 1 a.f__law_low a.d__law_low ["top", "bottom"] (lift K sp__law_low) := by
  refine dfn C.F__law_low sc__law_low (len_F fun _ => rfl) fun cdv A outer s H E Φ hr => ⟨_, T__law_low, (pss_cons (ps_par (i := 2) (j := 3) (by rfl) sc__law_low.nd rfl rfl (by decide) rfl rfl (pa_cons (pe_callB call_abs (by rfl) C.n_abs PyProof.Rows.boot_abs (pa_cons (pv 0) pa_nil)) (pa_cons (pe_callB call_abs (by rfl) C.n_abs PyProof.Rows.boot_abs (pa_cons (pv 1) pa_nil)) pa_nil)) (by rfl))
      (pss_cons (ps_while PassesOwn.never (pt_cmpR op_gt (pv 3) pe_int (nomark _)) (pss_one (ps_par (i := 2) (j := 3) (by rfl) sc__law_low.nd rfl rfl (by decide) rfl rfl (pa_cons (pv 3) (pa_cons (pe_op op_mod (pe_callTy call_int1 (by rfl) C.n_int (by decide +kernel) (pa_cons (pv 2) pa_nil)) (pv 3)) pa_nil)) (by rfl))))
      (pss_cons (ps_set (i := 4) sc__law_low.nd rfl (Or.inl rfl) (pe_ifExp (pt_cmpR op_lt (pv 1) pe_int (nomark _)) (pe_un un_neg pe_int) pe_int))
      (pss_one (ps_ret (pe_tup (pa_cons (pe_op op_fdivX (pe_op op_mulU (pv 4) (pv 0)) (pv 2)) (pa_cons (pe_op op_fdivX (pe_op op_mulU (pv 4) (pv 1)) (pv 2)) pa_nil)))))))),
    (sim_seq (sim_par false false (sim_cons (sim_cb cu_abs (sim_cons sim_var sim_nil)) (sim_cons (sim_cb cu_abs (sim_cons sim_var sim_nil)) sim_nil)) (by decide))
      (sim_seq (sim_while (sim_test (sim_op ou_cmp sim_var sim_int)) (sim_par false false (sim_cons sim_var (sim_cons (sim_op ou_I (sim_cb cu_int (sim_cons sim_var sim_nil)) sim_var) sim_nil)) (by decide)))
      (sim_seq (sim_set (sim_if (sim_test (sim_op ou_cmp sim_var sim_int)) (sim_un uu_neg sim_int) sim_int) sim_gname)
      (sim_ret (sim_tup (sim_cons (sim_op ou_I (sim_op ou_mul sim_var sim_var) sim_var) (sim_cons (sim_op ou_I (sim_op ou_mul sim_var sim_var) sim_var) sim_nil))))))), rd__law_low⟩

theorem ok__law_less {P : Program} {w : World} {K : PySem.W.Frag} {mg : Str → Option Value} {base : Heap} {a : Adr} (C : Txt K mg a) : FnOk P w K mg base CX0 1 a.f__law_less a.d__law_less ["one", "other"] (lift K sp__law_less) := by
  refine dfn C.F__law_less sc__law_less (len_F fun _ => rfl) fun cdv A outer s H E Φ hr => ⟨_, T__law_less, (pss_one (ps_ret (pe_cmpR op_lt (pe_op op_mulU (pe_ix ix_seq (pv 0) pe_int (fun _ _ => rfl)) (pe_ix ix_seq (pv 1) pe_int (fun _ _ => rfl))) (pe_op op_mulU (pe_ix ix_seq (pv 1) pe_int (fun _ _ => rfl)) (pe_ix ix_seq (pv 0) pe_int (fun _ _ => rfl))) (nomark _)))),
    (sim_ret (sim_op ou_cmp (sim_op ou_mul (sim_op ou_ix sim_var sim_int) (sim_op ou_ix sim_var sim_int)) (sim_op ou_mul (sim_op ou_ix sim_var sim_int) (sim_op ou_ix sim_var sim_int)))), rd__law_less⟩

theorem ok__law_power {P : Program} {w : World} {K : PySem.W.Frag} {mg : Str → Option Value} {base : Heap} {a : Adr} (C : Txt K mg a) : FnOk P w K mg base CX0 1 a.f__law_power a.d__law_power ["many"] (lift K sp__law_power) := by
  refine dfn C.F__law_power sc__law_power (len_R fun _ => rfl) fun cdv A outer s H E Φ hr => ⟨_, T__law_power, (pss_cons (ps_set (i := 1) sc__law_power.nd rfl (Or.inl rfl) pe_int)
      (pss_cons (ps_for PassesOwn.never rfl (pi_range1 (by rfl) C.n_range (pa_cons (pv 0) pa_nil)) (pg_name (i := 2) sc__law_power.nd rfl (Or.inl rfl)) (pss_one (ps_set (i := 1) sc__law_power.nd rfl (Or.inl rfl) (pe_op op_mulU (pv 1) pe_int))))
      (pss_one (ps_ret (pv 1))))),
    (sim_seq (sim_set sim_int sim_gname)
      (sim_seq (sim_for (sim_rng1 (sim_cons sim_var sim_nil)) sim_gname (sim_set (sim_op ou_mul sim_var sim_int) sim_gname))
      (sim_ret sim_var))), rd__law_power⟩

theorem ok_added {P : Program} {w : World} {K : PySem.W.Frag} {mg : Str → Option Value} {base : Heap} {a : Adr} (C : Txt K mg a) : FnOk P w K mg base CX0 2 a.f_added a.d_added ["one", "other"] (lift K sp_added) := by
  refine dfn C.F_added sc_added (len_F fun _ => rfl) fun cdv A outer s H E Φ hr => ⟨_, T_added, (pss_one (ps_ret (pe_call (ok_lowest C) (hr.mono (by decide)) (by rfl) C.g_lowest C.F_lowest.kp (b_lowest C) .nil pass0 (pa_cons (pe_op op_addU (pe_op op_mulU (pe_ix ix_seq (pv 0) pe_int (fun _ _ => rfl)) (pe_ix ix_seq (pv 1) pe_int (fun _ _ => rfl))) (pe_op op_mulU (pe_ix ix_seq (pv 1) pe_int (fun _ _ => rfl)) (pe_ix ix_seq (pv 0) pe_int (fun _ _ => rfl)))) (pa_cons (pe_op op_mulU (pe_ix ix_seq (pv 0) pe_int (fun _ _ => rfl)) (pe_ix ix_seq (pv 1) pe_int (fun _ _ => rfl))) pa_nil))))),
    (sim_ret (sim_call mono_F [false, false] (sim_cons (sim_op ou_add (sim_op ou_mul (sim_op ou_ix sim_var sim_int) (sim_op ou_ix sim_var sim_int)) (sim_op ou_mul (sim_op ou_ix sim_var sim_int) (sim_op ou_ix sim_var sim_int))) (sim_cons (sim_op ou_mul (sim_op ou_ix sim_var sim_int) (sim_op ou_ix sim_var sim_int)) sim_nil)))), rd_added⟩

theorem ok_lessened {P : Program} {w : World} {K : PySem.W.Frag} {mg : Str → Option Value} {base : Heap} {a : Adr} (C : Txt K mg a) : FnOk P w K mg base CX0 2 a.f_lessened a.d_lessened ["one", "other"] (lift K sp_lessened) := by
  refine dfn C.F_lessened sc_lessened (len_F fun _ => rfl) fun cdv A outer s H E Φ hr => ⟨_, T_lessened, (pss_one (ps_ret (pe_call (ok_lowest C) (hr.mono (by decide)) (by rfl) C.g_lowest C.F_lowest.kp (b_lowest C) .nil pass0 (pa_cons (pe_op op_sub (pe_op op_mulU (pe_ix ix_seq (pv 0) pe_int (fun _ _ => rfl)) (pe_ix ix_seq (pv 1) pe_int (fun _ _ => rfl))) (pe_op op_mulU (pe_ix ix_seq (pv 1) pe_int (fun _ _ => rfl)) (pe_ix ix_seq (pv 0) pe_int (fun _ _ => rfl)))) (pa_cons (pe_op op_mulU (pe_ix ix_seq (pv 0) pe_int (fun _ _ => rfl)) (pe_ix ix_seq (pv 1) pe_int (fun _ _ => rfl))) pa_nil))))),
    (sim_ret (sim_call mono_F [false, false] (sim_cons (sim_op ou_sub (sim_op ou_mul (sim_op ou_ix sim_var sim_int) (sim_op ou_ix sim_var sim_int)) (sim_op ou_mul (sim_op ou_ix sim_var sim_int) (sim_op ou_ix sim_var sim_int))) (sim_cons (sim_op ou_mul (sim_op ou_ix sim_var sim_int) (sim_op ou_ix sim_var sim_int)) sim_nil)))), rd_lessened⟩

theorem ok_multiplied {P : Program} {w : World} {K : PySem.W.Frag} {mg : Str → Option Value} {base : Heap} {a : Adr} (C : Txt K mg a) : FnOk P w K mg base CX0 2 a.f_multiplied a.d_multiplied ["one", "other"] (lift K sp_multiplied) := by
  refine dfn C.F_multiplied sc_multiplied (len_F fun _ => rfl) fun cdv A outer s H E Φ hr => ⟨_, T_multiplied, (pss_one (ps_ret (pe_call (ok_lowest C) (hr.mono (by decide)) (by rfl) C.g_lowest C.F_lowest.kp (b_lowest C) .nil pass0 (pa_cons (pe_op op_mulU (pe_ix ix_seq (pv 0) pe_int (fun _ _ => rfl)) (pe_ix ix_seq (pv 1) pe_int (fun _ _ => rfl))) (pa_cons (pe_op op_mulU (pe_ix ix_seq (pv 0) pe_int (fun _ _ => rfl)) (pe_ix ix_seq (pv 1) pe_int (fun _ _ => rfl))) pa_nil))))),
    (sim_ret (sim_call mono_F [false, false] (sim_cons (sim_op ou_mul (sim_op ou_ix sim_var sim_int) (sim_op ou_ix sim_var sim_int)) (sim_cons (sim_op ou_mul (sim_op ou_ix sim_var sim_int) (sim_op ou_ix sim_var sim_int)) sim_nil)))), rd_multiplied⟩

theorem ok_divided {P : Program} {w : World} {K : PySem.W.Frag} {mg : Str → Option Value} {base : Heap} {a : Adr} (C : Txt K mg a) : FnOk P w K mg base CX0 2 a.f_divided a.d_divided ["one", "other"] (lift K sp_divided) := by
  refine dfn C.F_divided sc_divided (len_F fun _ => rfl) fun cdv A outer s H E Φ hr => ⟨_, T_divided, (pss_one (ps_ret (pe_call (ok_lowest C) (hr.mono (by decide)) (by rfl) C.g_lowest C.F_lowest.kp (b_lowest C) .nil pass0 (pa_cons (pe_op op_mulU (pe_ix ix_seq (pv 0) pe_int (fun _ _ => rfl)) (pe_ix ix_seq (pv 1) pe_int (fun _ _ => rfl))) (pa_cons (pe_op op_mulU (pe_ix ix_seq (pv 0) pe_int (fun _ _ => rfl)) (pe_ix ix_seq (pv 1) pe_int (fun _ _ => rfl))) pa_nil))))),
    (sim_ret (sim_call mono_F [false, false] (sim_cons (sim_op ou_mul (sim_op ou_ix sim_var sim_int) (sim_op ou_ix sim_var sim_int)) (sim_cons (sim_op ou_mul (sim_op ou_ix sim_var sim_int) (sim_op ou_ix sim_var sim_int)) sim_nil)))), rd_divided⟩

theorem ok_is_fraction {P : Program} {w : World} {K : PySem.W.Frag} {mg : Str → Option Value} {base : Heap} {a : Adr} (C : Txt K mg a) : FnOk P w K mg base CX0 2 a.f_is_fraction a.d_is_fraction ["value"] (lift K sp_is_fraction) := by
  refine dfn C.F_is_fraction sc_is_fraction (len_F fun _ => rfl) fun cdv A outer s H E Φ hr => ⟨_, T_is_fraction, (pss_cons (ps_if (pt_not (pt_truth (pe_call (ok_is_tuple C) (hr.mono (by decide)) (by rfl) C.g_is_tuple C.F_is_tuple.kp (b_is_tuple C) .nil pass0 (pa_cons (pv 0) (pa_cons pe_int pa_nil))) (fun _ => rfl))) (pss_one (ps_ret pe_bl)) pss_nil)
      (pss_cons (ps_asg (pv 0) (pg_any rfl (pgs_cons (pg_name (i := 1) sc_is_fraction.nd rfl (Or.inl rfl)) (pgs_cons (pg_name (i := 2) sc_is_fraction.nd rfl (Or.inl rfl)) pgs_nil))))
      (pss_one (ps_ret (pe_and (pe_call (ok_is_integer C) (hr.mono (by decide)) (by rfl) C.g_is_integer C.F_is_integer.kp (b_is_integer C) .nil pass0 (pa_cons (pv 1) pa_nil)) (pe_and (pe_call (ok_is_integer C) (hr.mono (by decide)) (by rfl) C.g_is_integer C.F_is_integer.kp (b_is_integer C) .nil pass0 (pa_cons (pv 2) pa_nil)) (pe_and (pe_cmpR op_gt (pv 2) pe_int (nomark _)) (pe_one (pe_cmpR (op_eqD hr.units) (pe_callBfun cr_gcd (by rfl) C.g_gcd (pa_cons (pv 1) (pa_cons (pv 2) pa_nil))) pe_int (nomark _)))))))))),
    (sim_seq (sim_ifs (sim_not (sim_tru (sim_call mono_F [false, false] (sim_cons sim_var (sim_cons sim_int sim_nil))))) (sim_ret sim_bl) sim_next)
      (sim_seq (sim_set sim_var (sim_gany (sim_gcons (sim_gcons sim_gnil))))
      (sim_ret (sim_andv (sim_call mono_F [false] (sim_cons sim_var sim_nil)) (sim_andv (sim_call mono_F [false] (sim_cons sim_var sim_nil)) (sim_andv (sim_op ou_cmp sim_var sim_int) (sim_op ou_eq (sim_cb cu_gcd (sim_cons sim_var (sim_cons sim_var sim_nil))) sim_int))))))), rd_is_fraction⟩

theorem ok_fraction {P : Program} {w : World} {K : PySem.W.Frag} {mg : Str → Option Value} {base : Heap} {a : Adr} (C : Txt K mg a) : FnOk P w K mg base CX0 2 a.f_fraction a.d_fraction ["top", "bottom"] (lift K sp_fraction) := by
  refine dfn C.F_fraction sc_fraction (len_F fun _ => rfl) fun cdv A outer s H E Φ hr => ⟨_, T_fraction, (pss_cons (ps_if (pt_not (pt_truth (pe_call (ok_is_integer C) (hr.mono (by decide)) (by rfl) C.g_is_integer C.F_is_integer.kp (b_is_integer C) .nil pass0 (pa_cons (pv 0) pa_nil)) (fun _ => rfl))) (pss_one ps_never) pss_nil)
      (pss_cons (ps_if (PW.pt (pw_or (pt_not (pt_truth (pe_call (ok_is_integer C) (hr.mono (by decide)) (by rfl) C.g_is_integer C.F_is_integer.kp (b_is_integer C) .nil pass0 (pa_cons (pv 1) pa_nil)) (fun _ => rfl))) (pw_or1 (pt_cmpR (op_eqD hr.units) (pv 1) pe_int (nomark _))))) (pss_one ps_never) pss_nil)
      (pss_one (ps_ret (pe_call (ok_lowest C) (hr.mono (by decide)) (by rfl) C.g_lowest C.F_lowest.kp (b_lowest C) .nil pass0 (pa_cons (pv 0) (pa_cons (pv 1) pa_nil))))))),
    (sim_seq (sim_ifs (sim_not (sim_tru (sim_call mono_F [false] (sim_cons sim_var sim_nil)))) sim_never sim_next)
      (sim_seq (sim_ifs (sim_or (sim_not (sim_tru (sim_call mono_F [false] (sim_cons sim_var sim_nil)))) (sim_test (sim_op ou_eq sim_var sim_int))) sim_never sim_next)
      (sim_ret (sim_call mono_F [false, false] (sim_cons sim_var (sim_cons sim_var sim_nil)))))), rd_fraction⟩

theorem ok__law_pick {P : Program} {w : World} {K : PySem.W.Frag} {mg : Str → Option Value} {base : Heap} {a : Adr} (C : Txt K mg a) : FnOk P w K mg base CX0 2 a.f__law_pick a.d__law_pick ["box", "items"] (lift K sp__law_pick) := by
  refine dfn C.F__law_pick sc__law_pick (len_R fun _ => rfl) fun cdv A outer s H E Φ hr => ⟨_, T__law_pick, (pss_one (ps_ret (pe_ix ix_seq (pv 1) (pe_call (ok__law_take C) (hr.mono (by decide)) (by rfl) C.g__law_take C.F__law_take.kp (b__law_take C) .nil pass0 (pa_cons (pv 0) (pa_cons (pe_callB call_len_seq (by rfl) C.n_len PySem.boot_len (pa_cons (pv 1) pa_nil)) pa_nil))) (fun _ _ => rfl)))),
    (sim_ret (sim_op ou_ixS sim_var (sim_call mono_R [true, false] (sim_cons sim_var (sim_cons (sim_cb cu_len (sim_cons sim_var sim_nil)) sim_nil))))), rd__law_pick⟩

theorem ok__law_mixed {P : Program} {w : World} {K : PySem.W.Frag} {mg : Str → Option Value} {base : Heap} {a : Adr} (C : Txt K mg a) : FnOk P w K mg base CX0 2 a.f__law_mixed a.d__law_mixed ["box", "items"] (lift K sp__law_mixed) := by
  refine dfn C.F__law_mixed sc__law_mixed (len_R fun _ => rfl) fun cdv A outer s H E Φ hr => ⟨_, T__law_mixed, (pss_cons (ps_par (i := 2) (j := 3) (by rfl) sc__law_mixed.nd rfl rfl (by decide) rfl rfl (pa_cons (pe_callTy call_list_of (by rfl) C.n_list (by decide +kernel) (pa_cons (pv 1) pa_nil)) (pa_cons (pe_lst pa_nil) pa_nil)) (by rfl))
      (pss_cons (ps_for PassesOwn.never rfl (pi_range1 (by rfl) C.n_range (pa_cons (pe_callB call_len_seq (by rfl) C.n_len PySem.boot_len (pa_cons (pv 1) pa_nil)) pa_nil)) (pg_name (i := 4) sc__law_mixed.nd rfl (Or.inl rfl)) (pss_one (ps_expr (pe_bm PySem.F.plainAttrs_list PySem.F.slot_list_append PySem.F.type_list_append mt_append (pv 3) (pa_cons (pe_bm PySem.F.plainAttrs_list PySem.F.slot_list_pop PySem.F.type_list_pop mt_popAt (pv 2) (pa_cons (pe_call (ok__law_take C) (hr.mono (by decide)) (by rfl) C.g__law_take C.F__law_take.kp (b__law_take C) .nil pass0 (pa_cons (pv 0) (pa_cons (pe_callB call_len_seq (by rfl) C.n_len PySem.boot_len (pa_cons (pv 2) pa_nil)) pa_nil))) pa_nil)) pa_nil)))))
      (pss_one (ps_ret (pv 3))))),
    (sim_seq (sim_par true true (sim_cons (sim_cb cu_list (sim_cons sim_var sim_nil)) (sim_cons (sim_lst sim_nil) sim_nil)) (by decide))
      (sim_seq (sim_for (sim_rng1 (sim_cons (sim_cb cu_len (sim_cons sim_var sim_nil)) sim_nil)) sim_gname (sim_drop (sim_append (sim_cons (sim_popAt (sim_cons (sim_call mono_R [true, false] (sim_cons sim_var (sim_cons (sim_cb cu_len (sim_cons sim_var sim_nil)) sim_nil))) sim_nil)) sim_nil))))
      (sim_ret sim_var))), rd__law_mixed⟩

theorem ok__law_plus {P : Program} {w : World} {K : PySem.W.Frag} {mg : Str → Option Value} {base : Heap} {a : Adr} (C : Txt K mg a) : FnOk P w K mg base CX0 2 a.f__law_plus a.d__law_plus ["one", "other"] (lift K sp__law_plus) := by
  refine dfn C.F__law_plus sc__law_plus (len_F fun _ => rfl) fun cdv A outer s H E Φ hr => ⟨_, T__law_plus, (pss_one (ps_ret (pe_call (ok__law_low C) (hr.mono (by decide)) (by rfl) C.g__law_low C.F__law_low.kp (b__law_low C) .nil pass0 (pa_cons (pe_op op_addU (pe_op op_mulU (pe_ix ix_seq (pv 0) pe_int (fun _ _ => rfl)) (pe_ix ix_seq (pv 1) pe_int (fun _ _ => rfl))) (pe_op op_mulU (pe_ix ix_seq (pv 1) pe_int (fun _ _ => rfl)) (pe_ix ix_seq (pv 0) pe_int (fun _ _ => rfl)))) (pa_cons (pe_op op_mulU (pe_ix ix_seq (pv 0) pe_int (fun _ _ => rfl)) (pe_ix ix_seq (pv 1) pe_int (fun _ _ => rfl))) pa_nil))))),
    (sim_ret (sim_call mono_F [false, false] (sim_cons (sim_op ou_add (sim_op ou_mul (sim_op ou_ix sim_var sim_int) (sim_op ou_ix sim_var sim_int)) (sim_op ou_mul (sim_op ou_ix sim_var sim_int) (sim_op ou_ix sim_var sim_int))) (sim_cons (sim_op ou_mul (sim_op ou_ix sim_var sim_int) (sim_op ou_ix sim_var sim_int)) sim_nil)))), rd__law_plus⟩

theorem ok__law_minus {P : Program} {w : World} {K : PySem.W.Frag} {mg : Str → Option Value} {base : Heap} {a : Adr} (C : Txt K mg a) : FnOk P w K mg base CX0 2 a.f__law_minus a.d__law_minus ["one", "other"] (lift K sp__law_minus) := by
  refine dfn C.F__law_minus sc__law_minus (len_F fun _ => rfl) fun cdv A outer s H E Φ hr => ⟨_, T__law_minus, (pss_one (ps_ret (pe_call (ok__law_low C) (hr.mono (by decide)) (by rfl) C.g__law_low C.F__law_low.kp (b__law_low C) .nil pass0 (pa_cons (pe_op op_sub (pe_op op_mulU (pe_ix ix_seq (pv 0) pe_int (fun _ _ => rfl)) (pe_ix ix_seq (pv 1) pe_int (fun _ _ => rfl))) (pe_op op_mulU (pe_ix ix_seq (pv 1) pe_int (fun _ _ => rfl)) (pe_ix ix_seq (pv 0) pe_int (fun _ _ => rfl)))) (pa_cons (pe_op op_mulU (pe_ix ix_seq (pv 0) pe_int (fun _ _ => rfl)) (pe_ix ix_seq (pv 1) pe_int (fun _ _ => rfl))) pa_nil))))),
    (sim_ret (sim_call mono_F [false, false] (sim_cons (sim_op ou_sub (sim_op ou_mul (sim_op ou_ix sim_var sim_int) (sim_op ou_ix sim_var sim_int)) (sim_op ou_mul (sim_op ou_ix sim_var sim_int) (sim_op ou_ix sim_var sim_int))) (sim_cons (sim_op ou_mul (sim_op ou_ix sim_var sim_int) (sim_op ou_ix sim_var sim_int)) sim_nil)))), rd__law_minus⟩

theorem ok__law_times {P : Program} {w : World} {K : PySem.W.Frag} {mg : Str → Option Value} {base : Heap} {a : Adr} (C : Txt K mg a) : FnOk P w K mg base CX0 2 a.f__law_times a.d__law_times ["one", "other"] (lift K sp__law_times) := by
  refine dfn C.F__law_times sc__law_times (len_F fun _ => rfl) fun cdv A outer s H E Φ hr => ⟨_, T__law_times, (pss_one (ps_ret (pe_call (ok__law_low C) (hr.mono (by decide)) (by rfl) C.g__law_low C.F__law_low.kp (b__law_low C) .nil pass0 (pa_cons (pe_op op_mulU (pe_ix ix_seq (pv 0) pe_int (fun _ _ => rfl)) (pe_ix ix_seq (pv 1) pe_int (fun _ _ => rfl))) (pa_cons (pe_op op_mulU (pe_ix ix_seq (pv 0) pe_int (fun _ _ => rfl)) (pe_ix ix_seq (pv 1) pe_int (fun _ _ => rfl))) pa_nil))))),
    (sim_ret (sim_call mono_F [false, false] (sim_cons (sim_op ou_mul (sim_op ou_ix sim_var sim_int) (sim_op ou_ix sim_var sim_int)) (sim_cons (sim_op ou_mul (sim_op ou_ix sim_var sim_int) (sim_op ou_ix sim_var sim_int)) sim_nil)))), rd__law_times⟩

theorem ok__law_over {P : Program} {w : World} {K : PySem.W.Frag} {mg : Str → Option Value} {base : Heap} {a : Adr} (C : Txt K mg a) : FnOk P w K mg base CX0 2 a.f__law_over a.d__law_over ["one", "other"] (lift K sp__law_over) := by
  refine dfn C.F__law_over sc__law_over (len_F fun _ => rfl) fun cdv A outer s H E Φ hr => ⟨_, T__law_over, (pss_one (ps_ret (pe_call (ok__law_low C) (hr.mono (by decide)) (by rfl) C.g__law_low C.F__law_low.kp (b__law_low C) .nil pass0 (pa_cons (pe_op op_mulU (pe_ix ix_seq (pv 0) pe_int (fun _ _ => rfl)) (pe_ix ix_seq (pv 1) pe_int (fun _ _ => rfl))) (pa_cons (pe_op op_mulU (pe_ix ix_seq (pv 0) pe_int (fun _ _ => rfl)) (pe_ix ix_seq (pv 1) pe_int (fun _ _ => rfl))) pa_nil))))),
    (sim_ret (sim_call mono_F [false, false] (sim_cons (sim_op ou_mul (sim_op ou_ix sim_var sim_int) (sim_op ou_ix sim_var sim_int)) (sim_cons (sim_op ou_mul (sim_op ou_ix sim_var sim_int) (sim_op ou_ix sim_var sim_int)) sim_nil)))), rd__law_over⟩

theorem ok__law_great {P : Program} {w : World} {K : PySem.W.Frag} {mg : Str → Option Value} {base : Heap} {a : Adr} (C : Txt K mg a) : FnOk P w K mg base CX0 2 a.f__law_great a.d__law_great ["box"] (lift K sp__law_great) := by
  refine dfn C.F__law_great sc__law_great (len_R fun _ => rfl) fun cdv A outer s H E Φ hr => ⟨_, T__law_great, (pss_cons (ps_set (i := 1) sc__law_great.nd rfl (Or.inl rfl) (pe_call (ok__law_take C) (hr.mono (by decide)) (by rfl) C.g__law_take C.F__law_take.kp (b__law_take C) .nil pass0 (pa_cons (pv 0) (pa_cons pe_int pa_nil))))
      (pss_cons (ps_set (i := 2) sc__law_great.nd rfl (Or.inl rfl) (pe_ix ix_seq (pe_lst (pa_cons pe_int (pa_cons pe_int (pa_cons pe_int (pa_cons pe_int pa_nil))))) (pv 1) (fun _ _ => rfl)))
      (pss_cons (ps_set (i := 3) sc__law_great.nd rfl (Or.inl rfl) (pe_op op_addU (pe_call (ok__law_power C) (hr.mono (by decide)) (by rfl) C.g__law_power C.F__law_power.kp (b__law_power C) .nil pass0 (pa_cons (pe_op op_sub (pv 2) pe_int) pa_nil)) (pe_call (ok__law_take C) (hr.mono (by decide)) (by rfl) C.g__law_take C.F__law_take.kp (b__law_take C) .nil pass0 (pa_cons (pv 0) (pa_cons (pe_op op_pow pe_int pe_int) pa_nil)))))
      (pss_one (ps_ret (pe_ifExp (pt_cmpR op_gt (pv 1) pe_int (nomark _)) (pe_op op_mulU (pv 3) (pe_op op_addU pe_int (pe_call (ok__law_take C) (hr.mono (by decide)) (by rfl) C.g__law_take C.F__law_take.kp (b__law_take C) .nil pass0 (pa_cons (pv 0) (pa_cons pe_int pa_nil))))) (pv 3))))))),
    (sim_seq (sim_set (sim_call mono_R [true, false] (sim_cons sim_var (sim_cons sim_int sim_nil))) sim_gname)
      (sim_seq (sim_set (sim_op ou_ixS (sim_lst (sim_cons sim_int (sim_cons sim_int (sim_cons sim_int (sim_cons sim_int sim_nil))))) sim_var) sim_gname)
      (sim_seq (sim_set (sim_op ou_add (sim_call mono_R [false] (sim_cons (sim_op ou_sub sim_var sim_int) sim_nil)) (sim_call mono_R [true, false] (sim_cons sim_var (sim_cons (sim_op ou_I sim_int sim_int) sim_nil)))) sim_gname)
      (sim_ret (sim_if (sim_test (sim_op ou_cmp sim_var sim_int)) (sim_op ou_mul sim_var (sim_op ou_add sim_int (sim_call mono_R [true, false] (sim_cons sim_var (sim_cons sim_int sim_nil))))) sim_var))))), rd__law_great⟩

theorem ok_check_fractions {P : Program} {w : World} {K : PySem.W.Frag} {mg : Str → Option Value} {base : Heap} {a : Adr} (C : Txt K mg a) : FnOk P w K mg base CX0 3 a.f_check_fractions a.d_check_fractions ["one", "other"] (lift K sp_check_fractions) := by
  refine dfn C.F_check_fractions sc_check_fractions (len_F fun _ => rfl) fun cdv A outer s H E Φ hr => ⟨_, T_check_fractions, (pss_cons (ps_if (pt_not (pt_truth (pe_call (ok_is_fraction C) (hr.mono (by decide)) (by rfl) C.g_is_fraction C.F_is_fraction.kp (b_is_fraction C) .nil pass0 (pa_cons (pv 0) pa_nil)) (fun _ => rfl))) (pss_one ps_never) pss_nil)
      (pss_one (ps_if (pt_not (pt_truth (pe_call (ok_is_fraction C) (hr.mono (by decide)) (by rfl) C.g_is_fraction C.F_is_fraction.kp (b_is_fraction C) .nil pass0 (pa_cons (pv 1) pa_nil)) (fun _ => rfl))) (pss_one ps_never) pss_nil))),
    (sim_seq (sim_ifs (sim_not (sim_tru (sim_call mono_F [false] (sim_cons sim_var sim_nil)))) sim_never sim_next)
      (sim_ifs (sim_not (sim_tru (sim_call mono_F [false] (sim_cons sim_var sim_nil)))) sim_never sim_next)), rd_check_fractions⟩

theorem ok__law_sum {P : Program} {w : World} {K : PySem.W.Frag} {mg : Str → Option Value} {base : Heap} {a : Adr} (C : Txt K mg a) : FnOk P w K mg base CX0 3 a.f__law_sum a.d__law_sum ["items"] (lift K sp__law_sum) := by
  refine dfn C.F__law_sum sc__law_sum (len_F fun _ => rfl) fun cdv A outer s H E Φ hr => ⟨_, T__law_sum, (pss_cons (ps_set (i := 1) sc__law_sum.nd rfl (Or.inl rfl) (pe_tup (pa_cons pe_int (pa_cons pe_int pa_nil))))
      (pss_cons (ps_for PassesOwn.never rfl (pi_seq (pv 0)) (pg_name (i := 2) sc__law_sum.nd rfl (Or.inl rfl)) (pss_one (ps_set (i := 1) sc__law_sum.nd rfl (Or.inl rfl) (pe_call (ok__law_plus C) (hr.mono (by decide)) (by rfl) C.g__law_plus C.F__law_plus.kp (b__law_plus C) .nil pass0 (pa_cons (pv 1) (pa_cons (pv 2) pa_nil))))))
      (pss_one (ps_ret (pv 1))))),
    (sim_seq (sim_set (sim_tup (sim_cons sim_int (sim_cons sim_int sim_nil))) sim_gname)
      (sim_seq (sim_for (sim_iseq sim_var) sim_gname (sim_set (sim_call mono_F [false, false] (sim_cons sim_var (sim_cons sim_var sim_nil))) sim_gname))
      (sim_ret sim_var))), rd__law_sum⟩

theorem ok__law_number {P : Program} {w : World} {K : PySem.W.Frag} {mg : Str → Option Value} {base : Heap} {a : Adr} (C : Txt K mg a) : FnOk P w K mg base CX0 3 a.f__law_number a.d__law_number ["box", "great"] (lift K sp__law_number) := by
  refine dfn C.F__law_number sc__law_number (len_R fun _ => rfl) fun cdv A outer s H E Φ hr => ⟨_, T__law_number, (pss_cons (ps_set (i := 2) sc__law_number.nd rfl (Or.inl rfl) (pe_call (ok__law_take C) (hr.mono (by decide)) (by rfl) C.g__law_take C.F__law_take.kp (b__law_take C) .nil pass0 (pa_cons (pv 0) (pa_cons pe_int pa_nil))))
      (pss_cons (ps_if (pt_cmpR (op_eqD hr.units) (pv 2) pe_int (nomark _)) (pss_one (ps_ret (pe_tup (pa_cons pe_int (pa_cons pe_int pa_nil))))) pss_nil)
      (pss_cons (ps_if (PW.pt (pw_and (pt_cmpR op_gt (pv 1) pe_int (nomark _)) (pw_and1 (pt_cmpR (op_eqD hr.units) (pv 2) pe_int (nomark _))))) (pss_one (ps_ret (pe_call (ok__law_low C) (hr.mono (by decide)) (by rfl) C.g__law_low C.F__law_low.kp (b__law_low C) .nil pass0 (pa_cons (pe_op op_mulU (pe_call (ok__law_pick C) (hr.mono (by decide)) (by rfl) C.g__law_pick C.F__law_pick.kp (b__law_pick C) .nil pass0 (pa_cons (pv 0) (pa_cons (pe_lst (pa_cons pe_int (pa_cons (pe_un un_neg pe_int) pa_nil))) pa_nil))) (pe_op op_addU (pe_call (ok__law_power C) (hr.mono (by decide)) (by rfl) C.g__law_power C.F__law_power.kp (b__law_power C) .nil pass0 (pa_cons (pe_op op_sub (pv 1) pe_int) pa_nil)) (pe_call (ok__law_take C) (hr.mono (by decide)) (by rfl) C.g__law_take C.F__law_take.kp (b__law_take C) .nil pass0 (pa_cons (pv 0) (pa_cons (pe_op op_pow pe_int pe_int) pa_nil))))) (pa_cons (pe_op op_addU (pe_op op_addU (pe_call (ok__law_power C) (hr.mono (by decide)) (by rfl) C.g__law_power C.F__law_power.kp (b__law_power C) .nil pass0 (pa_cons (pe_op op_sub (pv 1) pe_int) pa_nil)) pe_int) (pe_call (ok__law_take C) (hr.mono (by decide)) (by rfl) C.g__law_take C.F__law_take.kp (b__law_take C) .nil pass0 (pa_cons (pv 0) (pa_cons (pe_op op_pow pe_int pe_int) pa_nil)))) pa_nil))))) pss_nil)
      (pss_one (ps_ret (pe_call (ok__law_low C) (hr.mono (by decide)) (by rfl) C.g__law_low C.F__law_low.kp (b__law_low C) .nil pass0 (pa_cons (pe_op op_sub (pe_call (ok__law_take C) (hr.mono (by decide)) (by rfl) C.g__law_take C.F__law_take.kp (b__law_take C) .nil pass0 (pa_cons (pv 0) (pa_cons pe_int pa_nil))) pe_int) (pa_cons (pe_call (ok__law_pick C) (hr.mono (by decide)) (by rfl) C.g__law_pick C.F__law_pick.kp (b__law_pick C) .nil pass0 (pa_cons (pv 0) (pa_cons (pe_lst (pa_cons pe_int (pa_cons pe_int (pa_cons pe_int (pa_cons pe_int (pa_cons pe_int (pa_cons pe_int (pa_cons pe_int pa_nil)))))))) pa_nil))) pa_nil)))))))),
    (sim_seq (sim_set (sim_call mono_R [true, false] (sim_cons sim_var (sim_cons sim_int sim_nil))) sim_gname)
      (sim_seq (sim_ifs (sim_test (sim_op ou_eq sim_var sim_int)) (sim_ret (sim_tup (sim_cons sim_int (sim_cons sim_int sim_nil)))) sim_next)
      (sim_seq (sim_ifs (sim_and (sim_test (sim_op ou_cmp sim_var sim_int)) (sim_test (sim_op ou_eq sim_var sim_int))) (sim_ret (sim_call mono_F [false, false] (sim_cons (sim_op ou_mul (sim_call mono_R [true, false] (sim_cons sim_var (sim_cons (sim_lst (sim_cons sim_int (sim_cons (sim_un uu_neg sim_int) sim_nil))) sim_nil))) (sim_op ou_add (sim_call mono_R [false] (sim_cons (sim_op ou_sub sim_var sim_int) sim_nil)) (sim_call mono_R [true, false] (sim_cons sim_var (sim_cons (sim_op ou_I sim_int sim_int) sim_nil))))) (sim_cons (sim_op ou_add (sim_op ou_add (sim_call mono_R [false] (sim_cons (sim_op ou_sub sim_var sim_int) sim_nil)) sim_int) (sim_call mono_R [true, false] (sim_cons sim_var (sim_cons (sim_op ou_I sim_int sim_int) sim_nil)))) sim_nil)))) sim_next)
      (sim_ret (sim_call mono_F [false, false] (sim_cons (sim_op ou_sub (sim_call mono_R [true, false] (sim_cons sim_var (sim_cons sim_int sim_nil))) sim_int) (sim_cons (sim_call mono_R [true, false] (sim_cons sim_var (sim_cons (sim_lst (sim_cons sim_int (sim_cons sim_int (sim_cons sim_int (sim_cons sim_int (sim_cons sim_int (sim_cons sim_int (sim_cons sim_int sim_nil)))))))) sim_nil))) sim_nil))))))), rd__law_number⟩

theorem ok_plus {P : Program} {w : World} {K : PySem.W.Frag} {mg : Str → Option Value} {base : Heap} {a : Adr} (C : Txt K mg a) : FnOk P w K mg base CX0 4 a.f_plus a.d_plus ["one", "other"] (lift K sp_plus) := by
  refine dfn C.F_plus sc_plus (len_F fun _ => rfl) fun cdv A outer s H E Φ hr => ⟨_, T_plus, (pss_cons (ps_expr (pe_call (ok_check_fractions C) (hr.mono (by decide)) (by rfl) C.g_check_fractions C.F_check_fractions.kp (b_check_fractions C) .nil pass0 (pa_cons (pv 0) (pa_cons (pv 1) pa_nil))))
      (pss_one (ps_ret (pe_call (ok_added C) (hr.mono (by decide)) (by rfl) C.g_added C.F_added.kp (b_added C) .nil pass0 (pa_cons (pv 0) (pa_cons (pv 1) pa_nil)))))),
    (sim_seq (sim_drop (sim_call mono_F [false, false] (sim_cons sim_var (sim_cons sim_var sim_nil))))
      (sim_ret (sim_call mono_F [false, false] (sim_cons sim_var (sim_cons sim_var sim_nil))))), rd_plus⟩

theorem ok_minus {P : Program} {w : World} {K : PySem.W.Frag} {mg : Str → Option Value} {base : Heap} {a : Adr} (C : Txt K mg a) : FnOk P w K mg base CX0 4 a.f_minus a.d_minus ["one", "other"] (lift K sp_minus) := by
  refine dfn C.F_minus sc_minus (len_F fun _ => rfl) fun cdv A outer s H E Φ hr => ⟨_, T_minus, (pss_cons (ps_expr (pe_call (ok_check_fractions C) (hr.mono (by decide)) (by rfl) C.g_check_fractions C.F_check_fractions.kp (b_check_fractions C) .nil pass0 (pa_cons (pv 0) (pa_cons (pv 1) pa_nil))))
      (pss_one (ps_ret (pe_call (ok_lessened C) (hr.mono (by decide)) (by rfl) C.g_lessened C.F_lessened.kp (b_lessened C) .nil pass0 (pa_cons (pv 0) (pa_cons (pv 1) pa_nil)))))),
    (sim_seq (sim_drop (sim_call mono_F [false, false] (sim_cons sim_var (sim_cons sim_var sim_nil))))
      (sim_ret (sim_call mono_F [false, false] (sim_cons sim_var (sim_cons sim_var sim_nil))))), rd_minus⟩

theorem ok_times {P : Program} {w : World} {K : PySem.W.Frag} {mg : Str → Option Value} {base : Heap} {a : Adr} (C : Txt K mg a) : FnOk P w K mg base CX0 4 a.f_times a.d_times ["one", "other"] (lift K sp_times) := by
  refine dfn C.F_times sc_times (len_F fun _ => rfl) fun cdv A outer s H E Φ hr => ⟨_, T_times, (pss_cons (ps_expr (pe_call (ok_check_fractions C) (hr.mono (by decide)) (by rfl) C.g_check_fractions C.F_check_fractions.kp (b_check_fractions C) .nil pass0 (pa_cons (pv 0) (pa_cons (pv 1) pa_nil))))
      (pss_one (ps_ret (pe_call (ok_multiplied C) (hr.mono (by decide)) (by rfl) C.g_multiplied C.F_multiplied.kp (b_multiplied C) .nil pass0 (pa_cons (pv 0) (pa_cons (pv 1) pa_nil)))))),
    (sim_seq (sim_drop (sim_call mono_F [false, false] (sim_cons sim_var (sim_cons sim_var sim_nil))))
      (sim_ret (sim_call mono_F [false, false] (sim_cons sim_var (sim_cons sim_var sim_nil))))), rd_times⟩

theorem ok_over {P : Program} {w : World} {K : PySem.W.Frag} {mg : Str → Option Value} {base : Heap} {a : Adr} (C : Txt K mg a) : FnOk P w K mg base CX0 4 a.f_over a.d_over ["one", "other"] (lift K sp_over) := by
  refine dfn C.F_over sc_over (len_F fun _ => rfl) fun cdv A outer s H E Φ hr => ⟨_, T_over, (pss_cons (ps_expr (pe_call (ok_check_fractions C) (hr.mono (by decide)) (by rfl) C.g_check_fractions C.F_check_fractions.kp (b_check_fractions C) .nil pass0 (pa_cons (pv 0) (pa_cons (pv 1) pa_nil))))
      (pss_cons (ps_if (pt_cmpR (op_eqD hr.units) (pv 1) (pe_glob (v := .ref a.c_ZERO) rfl C.c_ZERO rfl) (nomark _)) (pss_one ps_never) pss_nil)
      (pss_one (ps_ret (pe_call (ok_divided C) (hr.mono (by decide)) (by rfl) C.g_divided C.F_divided.kp (b_divided C) .nil pass0 (pa_cons (pv 0) (pa_cons (pv 1) pa_nil))))))),
    (sim_seq (sim_drop (sim_call mono_F [false, false] (sim_cons sim_var (sim_cons sim_var sim_nil))))
      (sim_seq (sim_ifs (sim_test (sim_op ou_eq sim_var (sim_c C.z_ZERO))) sim_never sim_next)
      (sim_ret (sim_call mono_F [false, false] (sim_cons sim_var (sim_cons sim_var sim_nil)))))), rd_over⟩

theorem ok_below {P : Program} {w : World} {K : PySem.W.Frag} {mg : Str → Option Value} {base : Heap} {a : Adr} (C : Txt K mg a) : FnOk P w K mg base CX0 4 a.f_below a.d_below ["one", "other"] (lift K sp_below) := by
  refine dfn C.F_below sc_below (len_F fun _ => rfl) fun cdv A outer s H E Φ hr => ⟨_, T_below, (pss_cons (ps_expr (pe_call (ok_check_fractions C) (hr.mono (by decide)) (by rfl) C.g_check_fractions C.F_check_fractions.kp (b_check_fractions C) .nil pass0 (pa_cons (pv 0) (pa_cons (pv 1) pa_nil))))
      (pss_one (ps_ret (pe_call (ok_is_less C) (hr.mono (by decide)) (by rfl) C.g_is_less C.F_is_less.kp (b_is_less C) .nil pass0 (pa_cons (pv 0) (pa_cons (pv 1) pa_nil)))))),
    (sim_seq (sim_drop (sim_call mono_F [false, false] (sim_cons sim_var (sim_cons sim_var sim_nil))))
      (sim_ret (sim_call mono_F [false, false] (sim_cons sim_var (sim_cons sim_var sim_nil))))), rd_below⟩

theorem ok__law_five {P : Program} {w : World} {K : PySem.W.Frag} {mg : Str → Option Value} {base : Heap} {a : Adr} (C : Txt K mg a) : FnOk P w K mg base CX0 4 a.f__law_five a.d__law_five ["box"] (lift K sp__law_five) := by
  refine dfn C.F__law_five sc__law_five (len_R fun _ => rfl) fun cdv A outer s H E Φ hr => ⟨_, T__law_five, (pss_cons (ps_set (i := 1) sc__law_five.nd rfl (Or.inl rfl) (pe_lst (pa_cons (pe_call (ok__law_number C) (hr.mono (by decide)) (by rfl) C.g__law_number C.F__law_number.kp (b__law_number C) .nil pass0 (pa_cons (pv 0) (pa_cons pe_int pa_nil))) (pa_cons (pe_call (ok__law_low C) (hr.mono (by decide)) (by rfl) C.g__law_low C.F__law_low.kp (b__law_low C) .nil pass0 (pa_cons (pe_op op_mulU (pe_call (ok__law_pick C) (hr.mono (by decide)) (by rfl) C.g__law_pick C.F__law_pick.kp (b__law_pick C) .nil pass0 (pa_cons (pv 0) (pa_cons (pe_lst (pa_cons pe_int (pa_cons (pe_un un_neg pe_int) pa_nil))) pa_nil))) (pe_call (ok__law_great C) (hr.mono (by decide)) (by rfl) C.g__law_great C.F__law_great.kp (b__law_great C) .nil pass0 (pa_cons (pv 0) pa_nil))) (pa_cons (pe_call (ok__law_great C) (hr.mono (by decide)) (by rfl) C.g__law_great C.F__law_great.kp (b__law_great C) .nil pass0 (pa_cons (pv 0) pa_nil)) pa_nil))) (pa_cons (pe_call (ok__law_low C) (hr.mono (by decide)) (by rfl) C.g__law_low C.F__law_low.kp (b__law_low C) .nil pass0 (pa_cons (pe_call (ok__law_great C) (hr.mono (by decide)) (by rfl) C.g__law_great C.F__law_great.kp (b__law_great C) .nil pass0 (pa_cons (pv 0) pa_nil)) (pa_cons pe_int pa_nil))) (pa_cons (pe_call (ok__law_pick C) (hr.mono (by decide)) (by rfl) C.g__law_pick C.F__law_pick.kp (b__law_pick C) .nil pass0 (pa_cons (pv 0) (pa_cons (pe_lst (pa_cons (pe_tup (pa_cons pe_int (pa_cons pe_int pa_nil))) (pa_cons (pe_tup (pa_cons pe_int (pa_cons pe_int pa_nil))) (pa_cons (pe_tup (pa_cons (pe_un un_neg pe_int) (pa_cons pe_int pa_nil))) pa_nil)))) pa_nil))) pa_nil))))))
      (pss_cons (ps_set (i := 2) sc__law_five.nd rfl (Or.inl rfl) (pe_call (ok__law_pick C) (hr.mono (by decide)) (by rfl) C.g__law_pick C.F__law_pick.kp (b__law_pick C) .nil pass0 (pa_cons (pv 0) (pa_cons (pv 1) pa_nil))))
      (pss_cons (ps_set (i := 3) sc__law_five.nd rfl (Or.inl rfl) (pe_lst (pa_cons (pv 2) (pa_cons (pv 2) (pa_cons (pe_tup (pa_cons (pe_un un_neg (pe_ix ix_seq (pv 2) pe_int (fun _ _ => rfl))) (pa_cons (pe_ix ix_seq (pv 2) pe_int (fun _ _ => rfl)) pa_nil))) pa_nil)))))
      (pss_cons (ps_if (PW.pt (pw_and (pt_cmpR op_lt (pe_callB call_abs (by rfl) C.n_abs PyProof.Rows.boot_abs (pa_cons (pe_ix ix_seq (pv 2) pe_int (fun _ _ => rfl)) pa_nil)) (pe_call (ok__law_power C) (hr.mono (by decide)) (by rfl) C.g__law_power C.F__law_power.kp (b__law_power C) .nil pass0 (pa_cons pe_int pa_nil)) (nomark _)) (pw_and1 (pt_cmpR op_lt (pe_ix ix_seq (pv 2) pe_int (fun _ _ => rfl)) (pe_call (ok__law_power C) (hr.mono (by decide)) (by rfl) C.g__law_power C.F__law_power.kp (b__law_power C) .nil pass0 (pa_cons pe_int pa_nil)) (nomark _))))) (pss_one (ps_expr (pe_bm PySem.F.plainAttrs_list PySem.F.slot_list_append PySem.F.type_list_append mt_append (pv 3) (pa_cons (pe_call (ok__law_low C) (hr.mono (by decide)) (by rfl) C.g__law_low C.F__law_low.kp (b__law_low C) .nil pass0 (pa_cons (pe_op op_addU (pe_op op_mulU (pe_ix ix_seq (pv 2) pe_int (fun _ _ => rfl)) (pe_ix ix_seq (pv 2) pe_int (fun _ _ => rfl))) pe_int) (pa_cons (pe_op op_mulU (pe_ix ix_seq (pv 2) pe_int (fun _ _ => rfl)) (pe_ix ix_seq (pv 2) pe_int (fun _ _ => rfl))) pa_nil))) pa_nil)))) pss_nil)
      (pss_one (ps_ret (pe_call (ok__law_mixed C) (hr.mono (by decide)) (by rfl) C.g__law_mixed C.F__law_mixed.kp (b__law_mixed C) .nil pass0 (pa_cons (pv 0) (pa_cons (pe_op op_addU (pv 1) (pe_lst (pa_cons (pe_call (ok__law_pick C) (hr.mono (by decide)) (by rfl) C.g__law_pick C.F__law_pick.kp (b__law_pick C) .nil pass0 (pa_cons (pv 0) (pa_cons (pv 3) pa_nil))) pa_nil))) pa_nil))))))))),
    (sim_seq (sim_set (sim_lst (sim_cons (sim_call mono_R [true, false] (sim_cons sim_var (sim_cons sim_int sim_nil))) (sim_cons (sim_call mono_F [false, false] (sim_cons (sim_op ou_mul (sim_call mono_R [true, false] (sim_cons sim_var (sim_cons (sim_lst (sim_cons sim_int (sim_cons (sim_un uu_neg sim_int) sim_nil))) sim_nil))) (sim_call mono_R [true] (sim_cons sim_var sim_nil))) (sim_cons (sim_call mono_R [true] (sim_cons sim_var sim_nil)) sim_nil))) (sim_cons (sim_call mono_F [false, false] (sim_cons (sim_call mono_R [true] (sim_cons sim_var sim_nil)) (sim_cons sim_int sim_nil))) (sim_cons (sim_call mono_R [true, false] (sim_cons sim_var (sim_cons (sim_lst (sim_cons (sim_tup (sim_cons sim_int (sim_cons sim_int sim_nil))) (sim_cons (sim_tup (sim_cons sim_int (sim_cons sim_int sim_nil))) (sim_cons (sim_tup (sim_cons (sim_un uu_neg sim_int) (sim_cons sim_int sim_nil))) sim_nil)))) sim_nil))) sim_nil))))) sim_gname)
      (sim_seq (sim_set (sim_call mono_R [true, false] (sim_cons sim_var (sim_cons sim_var sim_nil))) sim_gname)
      (sim_seq (sim_setO (sim_lst (sim_cons sim_var (sim_cons sim_var (sim_cons (sim_tup (sim_cons (sim_un uu_neg (sim_op ou_ix sim_var sim_int)) (sim_cons (sim_op ou_ix sim_var sim_int) sim_nil))) sim_nil)))))
      (sim_seq (sim_ifs (sim_and (sim_test (sim_op ou_cmp (sim_cb cu_abs (sim_cons (sim_op ou_ix sim_var sim_int) sim_nil)) (sim_call mono_R [false] (sim_cons sim_int sim_nil)))) (sim_test (sim_op ou_cmp (sim_op ou_ix sim_var sim_int) (sim_call mono_R [false] (sim_cons sim_int sim_nil))))) (sim_drop (sim_append (sim_cons (sim_call mono_F [false, false] (sim_cons (sim_op ou_add (sim_op ou_mul (sim_op ou_ix sim_var sim_int) (sim_op ou_ix sim_var sim_int)) sim_int) (sim_cons (sim_op ou_mul (sim_op ou_ix sim_var sim_int) (sim_op ou_ix sim_var sim_int)) sim_nil))) sim_nil))) sim_next)
      (sim_ret (sim_call mono_R [true, false] (sim_cons sim_var (sim_cons (sim_op ou_add sim_var (sim_lst (sim_cons (sim_call mono_R [true, false] (sim_cons sim_var (sim_cons sim_var sim_nil))) sim_nil))) sim_nil)))))))), rd__law_five⟩

theorem moS : ∀ n, Mono (spS n)
  | 0 => fun _ _ _ h _ => h.elim
  | _ + 1 => mono_F
theorem ok_spS {P : Program} {w : World} {K : PySem.W.Frag} {mg : Str → Option Value} {base : Heap} {a : Adr} (C : Txt K mg a) : ∀ n, FnOk P w K mg base CX0 n a.f__law_same a.d__law_same ["given", "due"] (lift K (spS n))
  | 0 => ⟨fun _ _ _ _ ⟨_, _, _, _, _, h⟩ => h.elim, fun _ _ _ _ _ _ _ _ _ _ _ _ _ ⟨_, _, _, _, _, h⟩ => h.elim⟩
  | n + 1 => by
    refine dfn C.F__law_same sc__law_same (len_F fun _ => rfl) fun cdv A outer s H E Φ hr => ⟨_, T__law_same (spS n), (pss_cons (ps_if (PW.pt (pw_or (pt_cmpR op_isU (pv 1) pe_non (nomark _)) (pw_or1 (pt_truth (pe_callB call_isi (by rfl) C.n_isinstance (by decide +kernel) (pa_cons (pv 1) (pa_cons (pe_bltn (v := .ty "bool") rfl C.n_bool (by decide +kernel) rfl) pa_nil))) (fun _ => rfl))))) (pss_one (ps_ret (pe_ifExp (pt_cmpR op_isU (pv 1) pe_non (nomark _)) (pe_cmpR op_isU (pv 0) pe_non (nomark _)) (pe_and (pe_callB call_isi (by rfl) C.n_isinstance (by decide +kernel) (pa_cons (pv 0) (pa_cons (pe_bltn (v := .ty "bool") rfl C.n_bool (by decide +kernel) rfl) pa_nil))) (pe_one (pe_cmpR (op_eqD hr.units) (pe_cmpR op_isU (pv 0) pe_bl (nomark _)) (pe_cmpR op_isU (pv 1) pe_bl (nomark _)) (nomark _))))))) pss_nil)
      (pss_cons (ps_if (pt_truth (pe_callB call_isi (by rfl) C.n_isinstance (by decide +kernel) (pa_cons (pv 1) (pa_cons (pe_bltn (v := .ty "int") rfl C.n_int (by decide +kernel) rfl) pa_nil))) (fun _ => rfl)) (pss_one (ps_ret (pe_and (pe_callB call_isi (by rfl) C.n_isinstance (by decide +kernel) (pa_cons (pv 0) (pa_cons (pe_bltn (v := .ty "int") rfl C.n_int (by decide +kernel) rfl) pa_nil))) (pe_and (pe_not (pe_callB call_isi (by rfl) C.n_isinstance (by decide +kernel) (pa_cons (pv 0) (pa_cons (pe_bltn (v := .ty "bool") rfl C.n_bool (by decide +kernel) rfl) pa_nil)))) (pe_one (pe_cmpR (op_eqD hr.units) (pe_op op_sub (pe_callTy call_int1 (by rfl) C.n_int (by decide +kernel) (pa_cons (pv 0) pa_nil)) (pv 1)) pe_int (nomark _))))))) pss_nil)
      (pss_cons (ps_if (pt_truth (pe_callB call_isi (by rfl) C.n_isinstance (by decide +kernel) (pa_cons (pv 1) (pa_cons (pe_bltn (v := .ty "str") rfl C.n_str (by decide +kernel) rfl) pa_nil))) (fun _ => rfl)) (pss_one (ps_ret (pe_and (pe_callB call_isi (by rfl) C.n_isinstance (by decide +kernel) (pa_cons (pv 0) (pa_cons (pe_bltn (v := .ty "str") rfl C.n_str (by decide +kernel) rfl) pa_nil))) (pe_and (pe_cmpR (op_eqD hr.units) (pe_callB call_len_seq (by rfl) C.n_len PySem.boot_len (pa_cons (pv 0) pa_nil)) (pe_callB call_len_seq (by rfl) C.n_len PySem.boot_len (pa_cons (pv 1) pa_nil)) (nomark _)) (pe_one (pe_cmpR (op_eqD hr.units) (pe_lc (own := [("k", 2)]) rfl sc__law_same.nd (pi_range1 (by rfl) C.n_range (pa_cons (pe_callB call_len_seq (by rfl) C.n_len PySem.boot_len (pa_cons (pv 1) pa_nil)) pa_nil)) (blkOk_by (N := N__law_same) (sc := defScope (top 31)) (by decide +kernel)) (fun _ _ _ _ _ => (pg_name (i := 2) sc__law_same.nd rfl (by first | exact Or.inl rfl | exact Or.inr rfl))) (fun _ _ _ _ _ => (pts_one (pt_cmpR (op_neD hr.units) (pe_slice sl_list (pv 0) (po_some (pv 2)) (po_some (pe_op op_addU (pv 2) pe_int))) (pe_ix ix_seq (pv 1) (pv 2) (fun _ _ => rfl)) (nomark _)))) (fun _ _ _ _ _ => (pv 2))) (pe_lst pa_nil) (nomark _))))))) pss_nil)
      (pss_cons (ps_if (PW.pt (pw_or (pt_cmpR (op_neD hr.units) (pe_callB call_isi (by rfl) C.n_isinstance (by decide +kernel) (pa_cons (pv 0) (pa_cons (pe_bltn (v := .ty "list") rfl C.n_list (by decide +kernel) rfl) pa_nil))) (pe_callB call_isi (by rfl) C.n_isinstance (by decide +kernel) (pa_cons (pv 1) (pa_cons (pe_bltn (v := .ty "list") rfl C.n_list (by decide +kernel) rfl) pa_nil))) (nomark _)) (pw_or1 (pt_cmpR (op_neD hr.units) (pe_callB call_isi (by rfl) C.n_isinstance (by decide +kernel) (pa_cons (pv 0) (pa_cons (pe_bltn (v := .ty "tuple") rfl C.n_tuple (by decide +kernel) rfl) pa_nil))) (pe_callB call_isi (by rfl) C.n_isinstance (by decide +kernel) (pa_cons (pv 1) (pa_cons (pe_bltn (v := .ty "tuple") rfl C.n_tuple (by decide +kernel) rfl) pa_nil))) (nomark _))))) (pss_one (ps_ret pe_bl)) pss_nil)
      (pss_one (ps_ret (pe_and (pe_cmpR (op_eqD hr.units) (pe_callB call_len_seq (by rfl) C.n_len PySem.boot_len (pa_cons (pv 0) pa_nil)) (pe_callB call_len_seq (by rfl) C.n_len PySem.boot_len (pa_cons (pv 1) pa_nil)) (nomark _)) (pe_one (pe_cmpR (op_eqD hr.units) (pe_lc (own := [("k", 2)]) rfl sc__law_same.nd (pi_range1 (by rfl) C.n_range (pa_cons (pe_callB call_len_seq (by rfl) C.n_len PySem.boot_len (pa_cons (pv 1) pa_nil)) pa_nil)) (blkOk_by (N := N__law_same) (sc := defScope (top 31)) (by decide +kernel)) (fun _ _ _ _ _ => (pg_name (i := 2) sc__law_same.nd rfl (by first | exact Or.inl rfl | exact Or.inr rfl))) (fun _ _ _ _ _ => (pts_one (pt_not (pt_truth (pe_call (ok_spS C n) hr (by rfl) C.g__law_same C.F__law_same.kp (b__law_same C) .nil pass0 (pa_cons (pe_ix ix_seq (pv 0) (pv 2) (fun _ _ => rfl)) (pa_cons (pe_ix ix_seq (pv 1) (pv 2) (fun _ _ => rfl)) pa_nil))) (fun _ => rfl))))) (fun _ _ _ _ _ => (pv 2))) (pe_lst pa_nil) (nomark _)))))))))),
    (sim_seq (sim_ifs (sim_or (sim_test (sim_op ou_is sim_var sim_non)) (sim_tru (sim_cb cu_isi (sim_cons sim_var (sim_cons (sim_c (d := .ty .bool) fun _ _ => rfl) sim_nil))))) (sim_ret (sim_if (sim_test (sim_op ou_is sim_var sim_non)) (sim_op ou_is sim_var sim_non) (sim_andv (sim_cb cu_isi (sim_cons sim_var (sim_cons (sim_c (d := .ty .bool) fun _ _ => rfl) sim_nil))) (sim_op ou_eq (sim_op ou_is sim_var sim_bl) (sim_op ou_is sim_var sim_bl))))) sim_next)
      (sim_seq (sim_ifs (sim_tru (sim_cb cu_isi (sim_cons sim_var (sim_cons (sim_c (d := .ty .int) fun _ _ => rfl) sim_nil)))) (sim_ret (sim_andv (sim_cb cu_isi (sim_cons sim_var (sim_cons (sim_c (d := .ty .int) fun _ _ => rfl) sim_nil))) (sim_andv (sim_notv (sim_cb cu_isi (sim_cons sim_var (sim_cons (sim_c (d := .ty .bool) fun _ _ => rfl) sim_nil)))) (sim_op ou_eq (sim_op ou_sub (sim_cb cu_int (sim_cons sim_var sim_nil)) sim_var) sim_int)))) sim_next)
      (sim_seq (sim_ifs (sim_tru (sim_cb cu_isi (sim_cons sim_var (sim_cons (sim_c (d := .ty .str) fun _ _ => rfl) sim_nil)))) (sim_ret (sim_andv (sim_cb cu_isi (sim_cons sim_var (sim_cons (sim_c (d := .ty .str) fun _ _ => rfl) sim_nil))) (sim_andv (sim_op ou_eq (sim_cb cu_len (sim_cons sim_var sim_nil)) (sim_cb cu_len (sim_cons sim_var sim_nil))) (sim_op ou_eq (sim_lc (sim_rng1 (sim_cons (sim_cb cu_len (sim_cons sim_var sim_nil)) sim_nil)) sim_gname (sim_test (sim_op ou_ne (sim_slL sim_var (sim_part sim_var) (sim_part (sim_op ou_add sim_var sim_int))) (sim_op ou_ixS sim_var sim_var))) sim_var) (sim_lst sim_nil))))) sim_next)
      (sim_seq (sim_ifs (sim_or (sim_test (sim_op ou_ne (sim_cb cu_isi (sim_cons sim_var (sim_cons (sim_c (d := .ty .list) fun _ _ => rfl) sim_nil))) (sim_cb cu_isi (sim_cons sim_var (sim_cons (sim_c (d := .ty .list) fun _ _ => rfl) sim_nil))))) (sim_test (sim_op ou_ne (sim_cb cu_isi (sim_cons sim_var (sim_cons (sim_c (d := .ty .tuple) fun _ _ => rfl) sim_nil))) (sim_cb cu_isi (sim_cons sim_var (sim_cons (sim_c (d := .ty .tuple) fun _ _ => rfl) sim_nil)))))) (sim_ret sim_bl) sim_next)
      (sim_ret (sim_andv (sim_op ou_eq (sim_cb cu_len (sim_cons sim_var sim_nil)) (sim_cb cu_len (sim_cons sim_var sim_nil))) (sim_op ou_eq (sim_lc (sim_rng1 (sim_cons (sim_cb cu_len (sim_cons sim_var sim_nil)) sim_nil)) sim_gname (sim_not (sim_tru (sim_call (moS n) [false, false] (sim_cons (sim_op ou_ixS sim_var sim_var) (sim_cons (sim_op ou_ixS sim_var sim_var) sim_nil))))) sim_var) (sim_lst sim_nil)))))))), rd_same n⟩
theorem ok__law_same {P : Program} {w : World} {K : PySem.W.Frag} {mg : Str → Option Value} {base : Heap} {a : Adr} (C : Txt K mg a) : FnOk P w K mg base CX0 6 a.f__law_same a.d__law_same ["given", "due"] (lift K sp__law_same) := ok_spS C 6

theorem ok__law_two_right {P : Program} {w : World} {K : PySem.W.Frag} {mg : Str → Option Value} {base : Heap} {a : Adr} (C : Txt K mg a) : FnOk P w K mg base CX0 7 a.f__law_two_right a.d__law_two_right ["one", "other", "named"] (lift K sp__law_two_right) := by
  refine dfn C.F__law_two_right sc__law_two_right (len_F fun _ => rfl) fun cdv A outer s H E Φ hr => ⟨_, T__law_two_right, (pss_cons (ps_if (pt_truth (pv 2) (fun _ => rfl)) (pss_one (ps_set (i := 3) sc__law_two_right.nd rfl (Or.inl rfl) (pe_lst (pa_cons (pe_callN0 (ok_plus C) (hr.mono (by decide)) (by rfl) C.g_plus C.F_plus.kp (kbn (n := 0) (ks := ["other", "one"]) [1, 0] C.F_plus fun _ _ _ _ _ _ us ws h1 h2 => match us, ws, h1, h2 with | [], [_, _], _, _ => rfl) pass0 (pk_cons (pv 1) (pk_cons (pv 0) pk_nil))) (pa_cons (pe_call (ok_minus C) (hr.mono (by decide)) (by rfl) C.g_minus C.F_minus.kp (b_minus C) .nil pass0 (pa_cons (pv 0) (pa_cons (pv 1) pa_nil))) (pa_cons (pe_callN0 (ok_times C) (hr.mono (by decide)) (by rfl) C.g_times C.F_times.kp (kbn (n := 0) (ks := ["other", "one"]) [1, 0] C.F_times fun _ _ _ _ _ _ us ws h1 h2 => match us, ws, h1, h2 with | [], [_, _], _, _ => rfl) pass0 (pk_cons (pv 1) (pk_cons (pv 0) pk_nil))) (pa_cons (pe_call (ok_below C) (hr.mono (by decide)) (by rfl) C.g_below C.F_below.kp (b_below C) .nil pass0 (pa_cons (pv 0) (pa_cons (pv 1) pa_nil))) pa_nil))))))) (pss_one (ps_set (i := 3) sc__law_two_right.nd rfl (Or.inl rfl) (pe_lst (pa_cons (pe_call (ok_plus C) (hr.mono (by decide)) (by rfl) C.g_plus C.F_plus.kp (b_plus C) .nil pass0 (pa_cons (pv 0) (pa_cons (pv 1) pa_nil))) (pa_cons (pe_callN0 (ok_minus C) (hr.mono (by decide)) (by rfl) C.g_minus C.F_minus.kp (kbn (n := 0) (ks := ["other", "one"]) [1, 0] C.F_minus fun _ _ _ _ _ _ us ws h1 h2 => match us, ws, h1, h2 with | [], [_, _], _, _ => rfl) pass0 (pk_cons (pv 1) (pk_cons (pv 0) pk_nil))) (pa_cons (pe_call (ok_times C) (hr.mono (by decide)) (by rfl) C.g_times C.F_times.kp (b_times C) .nil pass0 (pa_cons (pv 0) (pa_cons (pv 1) pa_nil))) (pa_cons (pe_callN0 (ok_below C) (hr.mono (by decide)) (by rfl) C.g_below C.F_below.kp (kbn (n := 0) (ks := ["other", "one"]) [1, 0] C.F_below fun _ _ _ _ _ _ us ws h1 h2 => match us, ws, h1, h2 with | [], [_, _], _, _ => rfl) pass0 (pk_cons (pv 1) (pk_cons (pv 0) pk_nil))) pa_nil))))))))
      (pss_cons (ps_if (pt_not (pt_truth (pe_call (ok__law_same C) (hr.mono (by decide)) (by rfl) C.g__law_same C.F__law_same.kp (b__law_same C) .nil pass0 (pa_cons (pv 3) (pa_cons (pe_lst (pa_cons (pe_call (ok__law_plus C) (hr.mono (by decide)) (by rfl) C.g__law_plus C.F__law_plus.kp (b__law_plus C) .nil pass0 (pa_cons (pv 0) (pa_cons (pv 1) pa_nil))) (pa_cons (pe_call (ok__law_minus C) (hr.mono (by decide)) (by rfl) C.g__law_minus C.F__law_minus.kp (b__law_minus C) .nil pass0 (pa_cons (pv 0) (pa_cons (pv 1) pa_nil))) (pa_cons (pe_call (ok__law_times C) (hr.mono (by decide)) (by rfl) C.g__law_times C.F__law_times.kp (b__law_times C) .nil pass0 (pa_cons (pv 0) (pa_cons (pv 1) pa_nil))) (pa_cons (pe_call (ok__law_less C) (hr.mono (by decide)) (by rfl) C.g__law_less C.F__law_less.kp (b__law_less C) .nil pass0 (pa_cons (pv 0) (pa_cons (pv 1) pa_nil))) pa_nil))))) pa_nil))) (fun _ => rfl))) (pss_one (ps_ret pe_bl)) pss_nil)
      (pss_cons (ps_if (PW.pt (pw_and (pt_cmpR (op_neD hr.units) (pe_ix ix_seq (pv 1) pe_int (fun _ _ => rfl)) pe_int (nomark _)) (pw_and1 (pt_not (pt_truth (pe_call (ok__law_same C) (hr.mono (by decide)) (by rfl) C.g__law_same C.F__law_same.kp (b__law_same C) .nil pass0 (pa_cons (pe_ifExp (pt_truth (pv 2) (fun _ => rfl)) (pe_callN0 (ok_over C) (hr.mono (by decide)) (by rfl) C.g_over C.F_over.kp (kbn (n := 0) (ks := ["other", "one"]) [1, 0] C.F_over fun _ _ _ _ _ _ us ws h1 h2 => match us, ws, h1, h2 with | [], [_, _], _, _ => rfl) pass0 (pk_cons (pv 1) (pk_cons (pv 0) pk_nil))) (pe_call (ok_over C) (hr.mono (by decide)) (by rfl) C.g_over C.F_over.kp (b_over C) .nil pass0 (pa_cons (pv 0) (pa_cons (pv 1) pa_nil)))) (pa_cons (pe_call (ok__law_over C) (hr.mono (by decide)) (by rfl) C.g__law_over C.F__law_over.kp (b__law_over C) .nil pass0 (pa_cons (pv 0) (pa_cons (pv 1) pa_nil))) pa_nil))) (fun _ => rfl)))))) (pss_one (ps_ret pe_bl)) pss_nil)
      (pss_cons (ps_set (i := 4) sc__law_two_right.nd rfl (Or.inl rfl) (pe_lst (pa_cons (pe_call (ok_minus C) (hr.mono (by decide)) (by rfl) C.g_minus C.F_minus.kp (b_minus C) .nil pass0 (pa_cons (pe_ix ix_seq (pv 3) pe_int (fun _ _ => rfl)) (pa_cons (pv 1) pa_nil))) (pa_cons (pe_call (ok_plus C) (hr.mono (by decide)) (by rfl) C.g_plus C.F_plus.kp (b_plus C) .nil pass0 (pa_cons (pv 1) (pa_cons (pv 0) pa_nil))) (pa_cons (pe_callN0 (ok_times C) (hr.mono (by decide)) (by rfl) C.g_times C.F_times.kp (kbn (n := 0) (ks := ["one", "other"]) [0, 1] C.F_times fun _ _ _ _ _ _ us ws h1 h2 => match us, ws, h1, h2 with | [], [_, _], _, _ => rfl) pass0 (pk_cons (pv 1) (pk_cons (pv 0) pk_nil))) (pa_cons (pe_call (ok_minus C) (hr.mono (by decide)) (by rfl) C.g_minus C.F_minus.kp (b_minus C) .nil pass0 (pa_cons (pv 1) (pa_cons (pv 0) pa_nil))) pa_nil))))))
      (pss_cons (ps_set (i := 5) sc__law_two_right.nd rfl (Or.inl rfl) (pe_lst (pa_cons (pv 0) (pa_cons (pe_ix ix_seq (pv 3) pe_int (fun _ _ => rfl)) (pa_cons (pe_ix ix_seq (pv 3) pe_int (fun _ _ => rfl)) (pa_cons (pe_tup (pa_cons (pe_un un_neg (pe_ix ix_seq (pe_ix ix_seq (pv 3) pe_int (fun _ _ => rfl)) pe_int (fun _ _ => rfl))) (pa_cons (pe_ix ix_seq (pe_ix ix_seq (pv 3) pe_int (fun _ _ => rfl)) pe_int (fun _ _ => rfl)) pa_nil))) pa_nil))))))
      (pss_cons (ps_if (PW.pt (pw_or (pt_not (pt_truth (pe_call (ok__law_same C) (hr.mono (by decide)) (by rfl) C.g__law_same C.F__law_same.kp (b__law_same C) .nil pass0 (pa_cons (pv 4) (pa_cons (pv 5) pa_nil))) (fun _ => rfl))) (pw_or1 (PW.pt (pw_and (pt_cmpR (op_neD hr.units) (pe_ix ix_seq (pv 1) pe_int (fun _ _ => rfl)) pe_int (nomark _)) (pw_and1 (pt_not (pt_truth (pe_call (ok__law_same C) (hr.mono (by decide)) (by rfl) C.g__law_same C.F__law_same.kp (b__law_same C) .nil pass0 (pa_cons (pe_call (ok_over C) (hr.mono (by decide)) (by rfl) C.g_over C.F_over.kp (b_over C) .nil pass0 (pa_cons (pe_call (ok_times C) (hr.mono (by decide)) (by rfl) C.g_times C.F_times.kp (b_times C) .nil pass0 (pa_cons (pv 0) (pa_cons (pv 1) pa_nil))) (pa_cons (pv 1) pa_nil))) (pa_cons (pv 0) pa_nil))) (fun _ => rfl))))))))) (pss_one (ps_ret pe_bl)) pss_nil)
      (pss_cons (ps_set (i := 6) sc__law_two_right.nd rfl (Or.inl rfl) (pe_lst (pa_cons (pe_ix ix_seq (pv 3) pe_int (fun _ _ => rfl)) (pa_cons (pe_call (ok_below C) (hr.mono (by decide)) (by rfl) C.g_below C.F_below.kp (b_below C) .nil pass0 (pa_cons (pv 1) (pa_cons (pv 0) pa_nil))) (pa_cons (pe_cmpR (op_eqD hr.units) (pv 0) (pv 1) (nomark _)) pa_nil)))))
      (pss_one (ps_ret (pe_and (pe_cmpR (op_eqD hr.units) (pe_callB call_len_seq (by rfl) C.n_len PySem.boot_len (pa_cons (pe_lc (own := [("flag", 7)]) rfl sc__law_two_right.nd (pi_seq (pv 6)) (blkOk_by (N := N__law_two_right) (sc := defScope (top 43)) (by decide +kernel)) (fun _ _ _ _ _ => (pg_name (i := 7) sc__law_two_right.nd rfl (by first | exact Or.inl rfl | exact Or.inr rfl))) (fun _ _ _ _ _ => (pts_one (pt_cmpR op_isU (pv 7) pe_bl (nomark _)))) (fun _ _ _ _ _ => (pv 7))) pa_nil)) pe_int (nomark _)) (pe_one (pe_call (ok__law_same C) (hr.mono (by decide)) (by rfl) C.g__law_same C.F__law_same.kp (b__law_same C) .nil pass0 (pa_cons (pe_callN0 (ok_is_fraction C) (hr.mono (by decide)) (by rfl) C.g_is_fraction C.F_is_fraction.kp (kbn (n := 0) (ks := ["value"]) [0] C.F_is_fraction fun _ _ _ _ _ _ us ws h1 h2 => match us, ws, h1, h2 with | [], [_], _, _ => rfl) pass0 (pk_cons (pe_ix ix_seq (pv 3) pe_int (fun _ _ => rfl)) pk_nil)) (pa_cons pe_bl pa_nil)))))))))))))),
    (sim_seq (sim_ifs (sim_tru sim_var) (sim_set (sim_lst (sim_cons (sim_callN mono_F sim_nil (sim_cons sim_var (sim_cons sim_var sim_nil))) (sim_cons (sim_call mono_F [false, false] (sim_cons sim_var (sim_cons sim_var sim_nil))) (sim_cons (sim_callN mono_F sim_nil (sim_cons sim_var (sim_cons sim_var sim_nil))) (sim_cons (sim_call mono_F [false, false] (sim_cons sim_var (sim_cons sim_var sim_nil))) sim_nil))))) sim_gname) (sim_set (sim_lst (sim_cons (sim_call mono_F [false, false] (sim_cons sim_var (sim_cons sim_var sim_nil))) (sim_cons (sim_callN mono_F sim_nil (sim_cons sim_var (sim_cons sim_var sim_nil))) (sim_cons (sim_call mono_F [false, false] (sim_cons sim_var (sim_cons sim_var sim_nil))) (sim_cons (sim_callN mono_F sim_nil (sim_cons sim_var (sim_cons sim_var sim_nil))) sim_nil))))) sim_gname))
      (sim_seq (sim_ifs (sim_not (sim_tru (sim_call mono_F [false, false] (sim_cons sim_var (sim_cons (sim_lst (sim_cons (sim_call mono_F [false, false] (sim_cons sim_var (sim_cons sim_var sim_nil))) (sim_cons (sim_call mono_F [false, false] (sim_cons sim_var (sim_cons sim_var sim_nil))) (sim_cons (sim_call mono_F [false, false] (sim_cons sim_var (sim_cons sim_var sim_nil))) (sim_cons (sim_call mono_F [false, false] (sim_cons sim_var (sim_cons sim_var sim_nil))) sim_nil))))) sim_nil))))) (sim_ret sim_bl) sim_next)
      (sim_seq (sim_ifs (sim_and (sim_test (sim_op ou_ne (sim_op ou_ix sim_var sim_int) sim_int)) (sim_not (sim_tru (sim_call mono_F [false, false] (sim_cons (sim_if (sim_tru sim_var) (sim_callN mono_F sim_nil (sim_cons sim_var (sim_cons sim_var sim_nil))) (sim_call mono_F [false, false] (sim_cons sim_var (sim_cons sim_var sim_nil)))) (sim_cons (sim_call mono_F [false, false] (sim_cons sim_var (sim_cons sim_var sim_nil))) sim_nil)))))) (sim_ret sim_bl) sim_next)
      (sim_seq (sim_set (sim_lst (sim_cons (sim_call mono_F [false, false] (sim_cons (sim_op ou_ix sim_var sim_int) (sim_cons sim_var sim_nil))) (sim_cons (sim_call mono_F [false, false] (sim_cons sim_var (sim_cons sim_var sim_nil))) (sim_cons (sim_callN mono_F sim_nil (sim_cons sim_var (sim_cons sim_var sim_nil))) (sim_cons (sim_call mono_F [false, false] (sim_cons sim_var (sim_cons sim_var sim_nil))) sim_nil))))) sim_gname)
      (sim_seq (sim_set (sim_lst (sim_cons sim_var (sim_cons (sim_op ou_ix sim_var sim_int) (sim_cons (sim_op ou_ix sim_var sim_int) (sim_cons (sim_tup (sim_cons (sim_un uu_neg (sim_op ou_ix (sim_op ou_ix sim_var sim_int) sim_int)) (sim_cons (sim_op ou_ix (sim_op ou_ix sim_var sim_int) sim_int) sim_nil))) sim_nil))))) sim_gname)
      (sim_seq (sim_ifs (sim_or (sim_not (sim_tru (sim_call mono_F [false, false] (sim_cons sim_var (sim_cons sim_var sim_nil))))) (sim_and (sim_test (sim_op ou_ne (sim_op ou_ix sim_var sim_int) sim_int)) (sim_not (sim_tru (sim_call mono_F [false, false] (sim_cons (sim_call mono_F [false, false] (sim_cons (sim_call mono_F [false, false] (sim_cons sim_var (sim_cons sim_var sim_nil))) (sim_cons sim_var sim_nil))) (sim_cons sim_var sim_nil))))))) (sim_ret sim_bl) sim_next)
      (sim_seq (sim_set (sim_lst (sim_cons (sim_op ou_ix sim_var sim_int) (sim_cons (sim_call mono_F [false, false] (sim_cons sim_var (sim_cons sim_var sim_nil))) (sim_cons (sim_op ou_eq sim_var sim_var) sim_nil)))) sim_gname)
      (sim_ret (sim_andv (sim_op ou_eq (sim_cb cu_len (sim_cons (sim_lc (sim_iseq sim_var) sim_gname (sim_test (sim_op ou_is sim_var sim_bl)) sim_var) sim_nil)) sim_int) (sim_call mono_F [false, false] (sim_cons (sim_callN mono_F sim_nil (sim_cons (sim_op ou_ix sim_var sim_int) sim_nil)) (sim_cons sim_bl sim_nil)))))))))))), rd__law_two_right⟩

theorem ok__law_three_right {P : Program} {w : World} {K : PySem.W.Frag} {mg : Str → Option Value} {base : Heap} {a : Adr} (C : Txt K mg a) : FnOk P w K mg base CX0 7 a.f__law_three_right a.d__law_three_right ["a", "b", "c", "named"] (lift K sp__law_three_right) := by
  refine dfn C.F__law_three_right sc__law_three_right (len_F fun _ => rfl) fun cdv A outer s H E Φ hr => ⟨_, T__law_three_right, (pss_cons (ps_set (i := 4) sc__law_three_right.nd rfl (Or.inl rfl) (pe_lst (pa_cons (pe_call (ok_plus C) (hr.mono (by decide)) (by rfl) C.g_plus C.F_plus.kp (b_plus C) .nil pass0 (pa_cons (pe_call (ok_plus C) (hr.mono (by decide)) (by rfl) C.g_plus C.F_plus.kp (b_plus C) .nil pass0 (pa_cons (pv 0) (pa_cons (pv 1) pa_nil))) (pa_cons (pv 2) pa_nil))) (pa_cons (pe_call (ok_times C) (hr.mono (by decide)) (by rfl) C.g_times C.F_times.kp (b_times C) .nil pass0 (pa_cons (pe_call (ok_times C) (hr.mono (by decide)) (by rfl) C.g_times C.F_times.kp (b_times C) .nil pass0 (pa_cons (pv 0) (pa_cons (pv 1) pa_nil))) (pa_cons (pv 2) pa_nil))) (pa_cons (pe_call (ok_times C) (hr.mono (by decide)) (by rfl) C.g_times C.F_times.kp (b_times C) .nil pass0 (pa_cons (pe_call (ok_plus C) (hr.mono (by decide)) (by rfl) C.g_plus C.F_plus.kp (b_plus C) .nil pass0 (pa_cons (pv 0) (pa_cons (pv 1) pa_nil))) (pa_cons (pv 2) pa_nil))) (pa_cons (pe_call (ok_minus C) (hr.mono (by decide)) (by rfl) C.g_minus C.F_minus.kp (b_minus C) .nil pass0 (pa_cons (pe_call (ok_minus C) (hr.mono (by decide)) (by rfl) C.g_minus C.F_minus.kp (b_minus C) .nil pass0 (pa_cons (pv 0) (pa_cons (pv 1) pa_nil))) (pa_cons (pv 2) pa_nil))) pa_nil))))))
      (pss_cons (ps_set (i := 5) sc__law_three_right.nd rfl (Or.inl rfl) (pe_lst (pa_cons (pe_call (ok_plus C) (hr.mono (by decide)) (by rfl) C.g_plus C.F_plus.kp (b_plus C) .nil pass0 (pa_cons (pv 0) (pa_cons (pe_call (ok_plus C) (hr.mono (by decide)) (by rfl) C.g_plus C.F_plus.kp (b_plus C) .nil pass0 (pa_cons (pv 1) (pa_cons (pv 2) pa_nil))) pa_nil))) (pa_cons (pe_callN0 (ok_times C) (hr.mono (by decide)) (by rfl) C.g_times C.F_times.kp (kbn (n := 0) (ks := ["other", "one"]) [1, 0] C.F_times fun _ _ _ _ _ _ us ws h1 h2 => match us, ws, h1, h2 with | [], [_, _], _, _ => rfl) pass0 (pk_cons (pe_call (ok_times C) (hr.mono (by decide)) (by rfl) C.g_times C.F_times.kp (b_times C) .nil pass0 (pa_cons (pv 1) (pa_cons (pv 2) pa_nil))) (pk_cons (pv 0) pk_nil))) (pa_cons (pe_call (ok_plus C) (hr.mono (by decide)) (by rfl) C.g_plus C.F_plus.kp (b_plus C) .nil pass0 (pa_cons (pe_call (ok_times C) (hr.mono (by decide)) (by rfl) C.g_times C.F_times.kp (b_times C) .nil pass0 (pa_cons (pv 0) (pa_cons (pv 2) pa_nil))) (pa_cons (pe_call (ok_times C) (hr.mono (by decide)) (by rfl) C.g_times C.F_times.kp (b_times C) .nil pass0 (pa_cons (pv 1) (pa_cons (pv 2) pa_nil))) pa_nil))) (pa_cons (pe_callN0 (ok_minus C) (hr.mono (by decide)) (by rfl) C.g_minus C.F_minus.kp (kbn (n := 0) (ks := ["other", "one"]) [1, 0] C.F_minus fun _ _ _ _ _ _ us ws h1 h2 => match us, ws, h1, h2 with | [], [_, _], _, _ => rfl) pass0 (pk_cons (pe_call (ok_plus C) (hr.mono (by decide)) (by rfl) C.g_plus C.F_plus.kp (b_plus C) .nil pass0 (pa_cons (pv 1) (pa_cons (pv 2) pa_nil))) (pk_cons (pv 0) pk_nil))) pa_nil))))))
      (pss_cons (ps_set (i := 6) sc__law_three_right.nd rfl (Or.inl rfl) (pe_lst (pa_cons (pe_call (ok__law_sum C) (hr.mono (by decide)) (by rfl) C.g__law_sum C.F__law_sum.kp (b__law_sum C) .nil pass0 (pa_cons (pe_lst (pa_cons (pv 0) (pa_cons (pv 1) (pa_cons (pv 2) pa_nil)))) pa_nil)) (pa_cons (pe_call (ok__law_times C) (hr.mono (by decide)) (by rfl) C.g__law_times C.F__law_times.kp (b__law_times C) .nil pass0 (pa_cons (pe_call (ok__law_times C) (hr.mono (by decide)) (by rfl) C.g__law_times C.F__law_times.kp (b__law_times C) .nil pass0 (pa_cons (pv 0) (pa_cons (pv 1) pa_nil))) (pa_cons (pv 2) pa_nil))) (pa_cons (pe_call (ok__law_times C) (hr.mono (by decide)) (by rfl) C.g__law_times C.F__law_times.kp (b__law_times C) .nil pass0 (pa_cons (pe_call (ok__law_plus C) (hr.mono (by decide)) (by rfl) C.g__law_plus C.F__law_plus.kp (b__law_plus C) .nil pass0 (pa_cons (pv 0) (pa_cons (pv 1) pa_nil))) (pa_cons (pv 2) pa_nil))) (pa_cons (pe_call (ok__law_minus C) (hr.mono (by decide)) (by rfl) C.g__law_minus C.F__law_minus.kp (b__law_minus C) .nil pass0 (pa_cons (pv 0) (pa_cons (pe_call (ok__law_plus C) (hr.mono (by decide)) (by rfl) C.g__law_plus C.F__law_plus.kp (b__law_plus C) .nil pass0 (pa_cons (pv 1) (pa_cons (pv 2) pa_nil))) pa_nil))) pa_nil))))))
      (pss_cons (ps_if (PW.pt (pw_or (pt_not (pt_truth (pe_call (ok__law_same C) (hr.mono (by decide)) (by rfl) C.g__law_same C.F__law_same.kp (b__law_same C) .nil pass0 (pa_cons (pv 4) (pa_cons (pv 6) pa_nil))) (fun _ => rfl))) (pw_or1 (pt_not (pt_truth (pe_call (ok__law_same C) (hr.mono (by decide)) (by rfl) C.g__law_same C.F__law_same.kp (b__law_same C) .nil pass0 (pa_cons (pv 5) (pa_cons (pv 6) pa_nil))) (fun _ => rfl)))))) (pss_one (ps_ret pe_bl)) pss_nil)
      (pss_cons (ps_if (PW.pt (pw_and (pt_truth (pe_call (ok_below C) (hr.mono (by decide)) (by rfl) C.g_below C.F_below.kp (b_below C) .nil pass0 (pa_cons (pv 0) (pa_cons (pv 1) pa_nil))) (fun _ => rfl)) (pw_and (pt_truth (pe_call (ok_below C) (hr.mono (by decide)) (by rfl) C.g_below C.F_below.kp (b_below C) .nil pass0 (pa_cons (pv 1) (pa_cons (pv 2) pa_nil))) (fun _ => rfl)) (pw_and1 (pt_cmpR op_notU (pe_call (ok_below C) (hr.mono (by decide)) (by rfl) C.g_below C.F_below.kp (b_below C) .nil pass0 (pa_cons (pv 0) (pa_cons (pv 2) pa_nil))) pe_bl (nomark _)))))) (pss_one (ps_ret pe_bl)) pss_nil)
      (pss_one (ps_ret (pe_or (pe_not (pe_cmpR op_gt (pe_ix ix_seq (pv 2) pe_int (fun _ _ => rfl)) pe_int (nomark _))) (pe_one (pe_call (ok__law_same C) (hr.mono (by decide)) (by rfl) C.g__law_same C.F__law_same.kp (b__law_same C) .nil pass0 (pa_cons (pe_lst (pa_cons (pe_call (ok_below C) (hr.mono (by decide)) (by rfl) C.g_below C.F_below.kp (b_below C) .nil pass0 (pa_cons (pe_call (ok_times C) (hr.mono (by decide)) (by rfl) C.g_times C.F_times.kp (b_times C) .nil pass0 (pa_cons (pv 0) (pa_cons (pv 2) pa_nil))) (pa_cons (pe_call (ok_times C) (hr.mono (by decide)) (by rfl) C.g_times C.F_times.kp (b_times C) .nil pass0 (pa_cons (pv 1) (pa_cons (pv 2) pa_nil))) pa_nil))) (pa_cons (pe_call (ok_below C) (hr.mono (by decide)) (by rfl) C.g_below C.F_below.kp (b_below C) .nil pass0 (pa_cons (pe_call (ok_plus C) (hr.mono (by decide)) (by rfl) C.g_plus C.F_plus.kp (b_plus C) .nil pass0 (pa_cons (pv 0) (pa_cons (pv 2) pa_nil))) (pa_cons (pe_call (ok_plus C) (hr.mono (by decide)) (by rfl) C.g_plus C.F_plus.kp (b_plus C) .nil pass0 (pa_cons (pv 1) (pa_cons (pv 2) pa_nil))) pa_nil))) pa_nil))) (pa_cons (pe_op op_mulU (pe_lst (pa_cons (pe_call (ok__law_less C) (hr.mono (by decide)) (by rfl) C.g__law_less C.F__law_less.kp (b__law_less C) .nil pass0 (pa_cons (pv 0) (pa_cons (pv 1) pa_nil))) pa_nil)) pe_int) pa_nil)))))))))))),
    (sim_seq (sim_set (sim_lst (sim_cons (sim_call mono_F [false, false] (sim_cons (sim_call mono_F [false, false] (sim_cons sim_var (sim_cons sim_var sim_nil))) (sim_cons sim_var sim_nil))) (sim_cons (sim_call mono_F [false, false] (sim_cons (sim_call mono_F [false, false] (sim_cons sim_var (sim_cons sim_var sim_nil))) (sim_cons sim_var sim_nil))) (sim_cons (sim_call mono_F [false, false] (sim_cons (sim_call mono_F [false, false] (sim_cons sim_var (sim_cons sim_var sim_nil))) (sim_cons sim_var sim_nil))) (sim_cons (sim_call mono_F [false, false] (sim_cons (sim_call mono_F [false, false] (sim_cons sim_var (sim_cons sim_var sim_nil))) (sim_cons sim_var sim_nil))) sim_nil))))) sim_gname)
      (sim_seq (sim_set (sim_lst (sim_cons (sim_call mono_F [false, false] (sim_cons sim_var (sim_cons (sim_call mono_F [false, false] (sim_cons sim_var (sim_cons sim_var sim_nil))) sim_nil))) (sim_cons (sim_callN mono_F sim_nil (sim_cons (sim_call mono_F [false, false] (sim_cons sim_var (sim_cons sim_var sim_nil))) (sim_cons sim_var sim_nil))) (sim_cons (sim_call mono_F [false, false] (sim_cons (sim_call mono_F [false, false] (sim_cons sim_var (sim_cons sim_var sim_nil))) (sim_cons (sim_call mono_F [false, false] (sim_cons sim_var (sim_cons sim_var sim_nil))) sim_nil))) (sim_cons (sim_callN mono_F sim_nil (sim_cons (sim_call mono_F [false, false] (sim_cons sim_var (sim_cons sim_var sim_nil))) (sim_cons sim_var sim_nil))) sim_nil))))) sim_gname)
      (sim_seq (sim_set (sim_lst (sim_cons (sim_call mono_F [false] (sim_cons (sim_lst (sim_cons sim_var (sim_cons sim_var (sim_cons sim_var sim_nil)))) sim_nil)) (sim_cons (sim_call mono_F [false, false] (sim_cons (sim_call mono_F [false, false] (sim_cons sim_var (sim_cons sim_var sim_nil))) (sim_cons sim_var sim_nil))) (sim_cons (sim_call mono_F [false, false] (sim_cons (sim_call mono_F [false, false] (sim_cons sim_var (sim_cons sim_var sim_nil))) (sim_cons sim_var sim_nil))) (sim_cons (sim_call mono_F [false, false] (sim_cons sim_var (sim_cons (sim_call mono_F [false, false] (sim_cons sim_var (sim_cons sim_var sim_nil))) sim_nil))) sim_nil))))) sim_gname)
      (sim_seq (sim_ifs (sim_or (sim_not (sim_tru (sim_call mono_F [false, false] (sim_cons sim_var (sim_cons sim_var sim_nil))))) (sim_not (sim_tru (sim_call mono_F [false, false] (sim_cons sim_var (sim_cons sim_var sim_nil)))))) (sim_ret sim_bl) sim_next)
      (sim_seq (sim_ifs (sim_and (sim_tru (sim_call mono_F [false, false] (sim_cons sim_var (sim_cons sim_var sim_nil)))) (sim_and (sim_tru (sim_call mono_F [false, false] (sim_cons sim_var (sim_cons sim_var sim_nil)))) (sim_test (sim_op ou_isnot (sim_call mono_F [false, false] (sim_cons sim_var (sim_cons sim_var sim_nil))) sim_bl)))) (sim_ret sim_bl) sim_next)
      (sim_ret (sim_orv (sim_notv (sim_op ou_cmp (sim_op ou_ix sim_var sim_int) sim_int)) (sim_call mono_F [false, false] (sim_cons (sim_lst (sim_cons (sim_call mono_F [false, false] (sim_cons (sim_call mono_F [false, false] (sim_cons sim_var (sim_cons sim_var sim_nil))) (sim_cons (sim_call mono_F [false, false] (sim_cons sim_var (sim_cons sim_var sim_nil))) sim_nil))) (sim_cons (sim_call mono_F [false, false] (sim_cons (sim_call mono_F [false, false] (sim_cons sim_var (sim_cons sim_var sim_nil))) (sim_cons (sim_call mono_F [false, false] (sim_cons sim_var (sim_cons sim_var sim_nil))) sim_nil))) sim_nil))) (sim_cons (sim_op ou_mul (sim_lst (sim_cons (sim_call mono_F [false, false] (sim_cons sim_var (sim_cons sim_var sim_nil))) sim_nil)) sim_int) sim_nil)))))))))), rd__law_three_right⟩

theorem ok__law_rows_right {P : Program} {w : World} {K : PySem.W.Frag} {mg : Str → Option Value} {base : Heap} {a : Adr} (C : Txt K mg a) : FnOk P w K mg base CX0 7 a.f__law_rows_right a.d__law_rows_right ["box", "five", "named"] (lift K sp__law_rows_right) := by
  refine dfn C.F__law_rows_right sc__law_rows_right (len_R fun _ => rfl) fun cdv A outer s H E Φ hr => ⟨_, T__law_rows_right, (pss_cons (ps_set (i := 3) sc__law_rows_right.nd rfl (Or.inr rfl) (pe_lst pa_nil))
      (pss_cons (ps_for PassesOwn.never rfl (pi_seq (pv 1)) (pg_name (i := 4) sc__law_rows_right.nd rfl (Or.inr rfl)) (pss_cons (ps_set (i := 5) sc__law_rows_right.nd rfl (Or.inl rfl) (pe_callB call_len_seq (by rfl) C.n_len PySem.boot_len (pa_cons (pe_lc (own := [("other", 10)]) rfl sc__law_rows_right.nd (pi_seq (pv 3)) (blkOk_by (N := N__law_rows_right) (sc := defScope (top 45)) (by decide +kernel)) (fun _ _ _ _ _ => (pg_name (i := 10) sc__law_rows_right.nd rfl (by first | exact Or.inl rfl | exact Or.inr rfl))) (fun _ _ _ _ _ => (pts_one (pt_truth (pe_call (ok_below C) (hr.mono (by decide)) (by rfl) C.g_below C.F_below.kp (b_below C) .nil pass0 (pa_cons (pv 10) (pa_cons (pv 4) pa_nil))) (fun _ => rfl)))) (fun _ _ _ _ _ => (pv 10))) pa_nil)))
      (pss_one (ps_set (i := 3) sc__law_rows_right.nd rfl (Or.inr rfl) (pe_op op_addU (pe_op op_addU (pe_slice sl_list (pv 3) po_none (po_some (pv 5))) (pe_lst (pa_cons (pv 4) pa_nil))) (pe_slice sl_list (pv 3) (po_some (pv 5)) po_none))))))
      (pss_cons (ps_if (pt_cmpR (op_neD hr.units) (pe_lc (own := [("k", 9)]) rfl sc__law_rows_right.nd (pi_range2 (by rfl) C.n_range (pa_cons pe_int (pa_cons (pe_callB call_len_seq (by rfl) C.n_len PySem.boot_len (pa_cons (pv 3) pa_nil)) pa_nil))) (blkOk_by (N := N__law_rows_right) (sc := defScope (top 45)) (by decide +kernel)) (fun _ _ _ _ _ => (pg_name (i := 9) sc__law_rows_right.nd rfl (by first | exact Or.inl rfl | exact Or.inr rfl))) (fun _ _ _ _ _ => (pts_one (pt_truth (pe_call (ok__law_less C) (hr.mono (by decide)) (by rfl) C.g__law_less C.F__law_less.kp (b__law_less C) .nil pass0 (pa_cons (pe_ix ix_seq (pv 3) (pv 9) (fun _ _ => rfl)) (pa_cons (pe_ix ix_seq (pv 3) (pe_op op_sub (pv 9) pe_int) (fun _ _ => rfl)) pa_nil))) (fun _ => rfl)))) (fun _ _ _ _ _ => (pv 9))) (pe_lst pa_nil) (nomark _)) (pss_one (ps_ret pe_bl)) pss_nil)
      (pss_cons (ps_par3 (i := 6) (j := 7) (l := 8) (by rfl) sc__law_rows_right.nd rfl rfl rfl (by decide) (by decide) (by decide) rfl rfl rfl (pa_cons (pe_op op_addU pe_int (pe_call (ok__law_take C) (hr.mono (by decide)) (by rfl) C.g__law_take C.F__law_take.kp (b__law_take C) .nil pass0 (pa_cons (pv 0) (pa_cons pe_int pa_nil)))) (pa_cons (pe_tup (pa_cons pe_int (pa_cons pe_int pa_nil))) (pa_cons (pe_tup (pa_cons pe_int (pa_cons pe_int pa_nil))) pa_nil))) (by rfl))
      (pss_cons (ps_for PassesOwn.never rfl (pi_range2 (by rfl) C.n_range (pa_cons pe_int (pa_cons (pe_op op_addU (pv 6) pe_int) pa_nil))) (pg_name (i := 9) sc__law_rows_right.nd rfl (Or.inl rfl)) (pss_cons (ps_set (i := 7) sc__law_rows_right.nd rfl (Or.inl rfl) (pe_ifExp (pt_truth (pv 2) (fun _ => rfl)) (pe_callN0 (ok_plus C) (hr.mono (by decide)) (by rfl) C.g_plus C.F_plus.kp (kbn (n := 0) (ks := ["other", "one"]) [1, 0] C.F_plus fun _ _ _ _ _ _ us ws h1 h2 => match us, ws, h1, h2 with | [], [_, _], _, _ => rfl) pass0 (pk_cons (pe_callN0 (ok_fraction C) (hr.mono (by decide)) (by rfl) C.g_fraction C.F_fraction.kp (kbn (n := 0) (ks := ["bottom", "top"]) [1, 0] C.F_fraction fun _ _ _ _ _ _ us ws h1 h2 => match us, ws, h1, h2 with | [], [_, _], _, _ => rfl) pass0 (pk_cons (pe_op op_mulU (pv 9) (pe_op op_addU (pv 9) pe_int)) (pk_cons pe_int pk_nil))) (pk_cons (pv 7) pk_nil))) (pe_call (ok_plus C) (hr.mono (by decide)) (by rfl) C.g_plus C.F_plus.kp (b_plus C) .nil pass0 (pa_cons (pv 7) (pa_cons (pe_call (ok_fraction C) (hr.mono (by decide)) (by rfl) C.g_fraction C.F_fraction.kp (b_fraction C) .nil pass0 (pa_cons pe_int (pa_cons (pe_op op_mulU (pv 9) (pe_op op_addU (pv 9) pe_int)) pa_nil))) pa_nil)))))
      (pss_one (ps_set (i := 8) sc__law_rows_right.nd rfl (Or.inl rfl) (pe_call (ok_times C) (hr.mono (by decide)) (by rfl) C.g_times C.F_times.kp (b_times C) .nil pass0 (pa_cons (pv 8) (pa_cons (pe_call (ok_fraction C) (hr.mono (by decide)) (by rfl) C.g_fraction C.F_fraction.kp (b_fraction C) .nil pass0 (pa_cons (pv 9) (pa_cons (pe_op op_addU (pv 9) pe_int) pa_nil))) pa_nil)))))))
      (pss_one (ps_ret (pe_call (ok__law_same C) (hr.mono (by decide)) (by rfl) C.g__law_same C.F__law_same.kp (b__law_same C) .nil pass0 (pa_cons (pe_lst (pa_cons (pv 7) (pa_cons (pv 8) pa_nil))) (pa_cons (pe_lst (pa_cons (pe_tup (pa_cons (pv 6) (pa_cons (pe_op op_addU (pv 6) pe_int) pa_nil))) (pa_cons (pe_tup (pa_cons pe_int (pa_cons (pe_op op_addU (pv 6) pe_int) pa_nil))) pa_nil))) pa_nil)))))))))),
    (sim_seq (sim_set (sim_lst sim_nil) sim_gname)
      (sim_seq (sim_for (sim_iseq sim_var) sim_gname (sim_seq (sim_set (sim_cb cu_len (sim_cons (sim_lc (sim_iseq sim_var) sim_gname (sim_tru (sim_call mono_F [false, false] (sim_cons sim_var (sim_cons sim_var sim_nil)))) sim_var) sim_nil)) sim_gname)
      (sim_set (sim_op ou_add (sim_op ou_add (sim_slL sim_var sim_nopart (sim_part sim_var)) (sim_lst (sim_cons sim_var sim_nil))) (sim_slL sim_var (sim_part sim_var) sim_nopart)) sim_gname)))
      (sim_seq (sim_ifs (sim_test (sim_op ou_ne (sim_lc (sim_rng2 (sim_cons sim_int (sim_cons (sim_cb cu_len (sim_cons sim_var sim_nil)) sim_nil))) sim_gname (sim_tru (sim_call mono_F [false, false] (sim_cons (sim_op ou_ixS sim_var sim_var) (sim_cons (sim_op ou_ixS sim_var (sim_op ou_sub sim_var sim_int)) sim_nil)))) sim_var) (sim_lst sim_nil))) (sim_ret sim_bl) sim_next)
      (sim_seq (sim_par3 false false false (sim_cons (sim_op ou_add sim_int (sim_call mono_R [true, false] (sim_cons sim_var (sim_cons sim_int sim_nil)))) (sim_cons (sim_tup (sim_cons sim_int (sim_cons sim_int sim_nil))) (sim_cons (sim_tup (sim_cons sim_int (sim_cons sim_int sim_nil))) sim_nil))))
      (sim_seq (sim_for (sim_rng2 (sim_cons sim_int (sim_cons (sim_op ou_add sim_var sim_int) sim_nil))) sim_gname (sim_seq (sim_set (sim_if (sim_tru sim_var) (sim_callN mono_F sim_nil (sim_cons (sim_callN mono_F sim_nil (sim_cons (sim_op ou_mul sim_var (sim_op ou_add sim_var sim_int)) (sim_cons sim_int sim_nil))) (sim_cons sim_var sim_nil))) (sim_call mono_F [false, false] (sim_cons sim_var (sim_cons (sim_call mono_F [false, false] (sim_cons sim_int (sim_cons (sim_op ou_mul sim_var (sim_op ou_add sim_var sim_int)) sim_nil))) sim_nil)))) sim_gname)
      (sim_set (sim_call mono_F [false, false] (sim_cons sim_var (sim_cons (sim_call mono_F [false, false] (sim_cons sim_var (sim_cons (sim_op ou_add sim_var sim_int) sim_nil))) sim_nil))) sim_gname)))
      (sim_ret (sim_call mono_F [false, false] (sim_cons (sim_lst (sim_cons sim_var (sim_cons sim_var sim_nil))) (sim_cons (sim_lst (sim_cons (sim_tup (sim_cons sim_var (sim_cons (sim_op ou_add sim_var sim_int) sim_nil))) (sim_cons (sim_tup (sim_cons sim_int (sim_cons (sim_op ou_add sim_var sim_int) sim_nil))) sim_nil))) sim_nil))))))))), rd__law_rows_right⟩

theorem ok__law_made_right {P : Program} {w : World} {K : PySem.W.Frag} {mg : Str → Option Value} {base : Heap} {a : Adr} (C : Txt K mg a) : FnOk P w K mg base CX0 7 a.f__law_made_right a.d__law_made_right ["box", "named"] (lift K sp__law_made_right) := by
  refine dfn C.F__law_made_right sc__law_made_right (len_R fun _ => rfl) fun cdv A outer s H E Φ hr => ⟨_, T__law_made_right, (pss_cons (ps_for PassesOwn.never rfl (pi_range1 (by rfl) C.n_range (pa_cons pe_int pa_nil)) (pg_name (i := 2) sc__law_made_right.nd rfl (Or.inl rfl)) (pss_cons (ps_set (i := 3) sc__law_made_right.nd rfl (Or.inl rfl) (pe_op op_addU (pe_call (ok__law_power C) (hr.mono (by decide)) (by rfl) C.g__law_power C.F__law_power.kp (b__law_power C) .nil pass0 (pa_cons (pe_call (ok__law_pick C) (hr.mono (by decide)) (by rfl) C.g__law_pick C.F__law_pick.kp (b__law_pick C) .nil pass0 (pa_cons (pv 0) (pa_cons (pe_lst (pa_cons pe_int (pa_cons pe_int (pa_cons pe_int pa_nil)))) pa_nil))) pa_nil)) (pe_call (ok__law_take C) (hr.mono (by decide)) (by rfl) C.g__law_take C.F__law_take.kp (b__law_take C) .nil pass0 (pa_cons (pv 0) (pa_cons (pe_op op_pow pe_int pe_int) pa_nil)))))
      (pss_cons (ps_par (i := 4) (j := 5) (by rfl) sc__law_made_right.nd rfl rfl (by decide) rfl rfl (pa_cons (pe_op op_mulU (pe_call (ok__law_pick C) (hr.mono (by decide)) (by rfl) C.g__law_pick C.F__law_pick.kp (b__law_pick C) .nil pass0 (pa_cons (pv 0) (pa_cons (pe_lst (pa_cons pe_int (pa_cons (pe_un un_neg pe_int) pa_nil))) pa_nil))) (pe_call (ok__law_take C) (hr.mono (by decide)) (by rfl) C.g__law_take C.F__law_take.kp (b__law_take C) .nil pass0 (pa_cons (pv 0) (pa_cons (pe_op op_pow pe_int pe_int) pa_nil)))) (pa_cons (pe_op op_mulU (pe_call (ok__law_pick C) (hr.mono (by decide)) (by rfl) C.g__law_pick C.F__law_pick.kp (b__law_pick C) .nil pass0 (pa_cons (pv 0) (pa_cons (pe_lst (pa_cons pe_int (pa_cons (pe_un un_neg pe_int) pa_nil))) pa_nil))) (pe_op op_addU pe_int (pe_call (ok__law_take C) (hr.mono (by decide)) (by rfl) C.g__law_take C.F__law_take.kp (b__law_take C) .nil pass0 (pa_cons (pv 0) (pa_cons (pe_op op_pow pe_int pe_int) pa_nil))))) pa_nil)) (by rfl))
      (pss_cons (ps_set (i := 6) sc__law_made_right.nd rfl (Or.inl rfl) (pe_ifExp (pt_truth (pv 1) (fun _ => rfl)) (pe_callN0 (ok_fraction C) (hr.mono (by decide)) (by rfl) C.g_fraction C.F_fraction.kp (kbn (n := 0) (ks := ["bottom", "top"]) [1, 0] C.F_fraction fun _ _ _ _ _ _ us ws h1 h2 => match us, ws, h1, h2 with | [], [_, _], _, _ => rfl) pass0 (pk_cons (pe_op op_mulU (pv 5) (pv 3)) (pk_cons (pe_op op_mulU (pv 4) (pv 3)) pk_nil))) (pe_call (ok_fraction C) (hr.mono (by decide)) (by rfl) C.g_fraction C.F_fraction.kp (b_fraction C) .nil pass0 (pa_cons (pe_op op_mulU (pv 4) (pv 3)) (pa_cons (pe_op op_mulU (pv 5) (pv 3)) pa_nil)))))
      (pss_cons (ps_if (PW.pt (pw_or (pt_not (pt_truth (pe_call (ok__law_same C) (hr.mono (by decide)) (by rfl) C.g__law_same C.F__law_same.kp (b__law_same C) .nil pass0 (pa_cons (pv 6) (pa_cons (pe_call (ok__law_low C) (hr.mono (by decide)) (by rfl) C.g__law_low C.F__law_low.kp (b__law_low C) .nil pass0 (pa_cons (pv 4) (pa_cons (pv 5) pa_nil))) pa_nil))) (fun _ => rfl))) (pw_or (pt_not (pt_truth (pe_call (ok__law_same C) (hr.mono (by decide)) (by rfl) C.g__law_same C.F__law_same.kp (b__law_same C) .nil pass0 (pa_cons (pe_call (ok_fraction C) (hr.mono (by decide)) (by rfl) C.g_fraction C.F_fraction.kp (b_fraction C) .nil pass0 (pa_cons pe_int (pa_cons (pe_op op_mulU (pv 5) (pv 3)) pa_nil))) (pa_cons (pe_tup (pa_cons pe_int (pa_cons pe_int pa_nil))) pa_nil))) (fun _ => rfl))) (pw_or1 (pt_not (pt_truth (pe_call (ok__law_same C) (hr.mono (by decide)) (by rfl) C.g__law_same C.F__law_same.kp (b__law_same C) .nil pass0 (pa_cons (pe_call (ok_fraction C) (hr.mono (by decide)) (by rfl) C.g_fraction C.F_fraction.kp (b_fraction C) .nil pass0 (pa_cons (pe_un un_neg (pv 3)) (pa_cons (pv 3) pa_nil))) (pa_cons (pe_tup (pa_cons (pe_un un_neg pe_int) (pa_cons pe_int pa_nil))) pa_nil))) (fun _ => rfl))))))) (pss_one (ps_ret pe_bl)) pss_nil)
      (pss_one (ps_set (i := 1) sc__law_made_right.nd rfl (Or.inl rfl) (pe_not (pv 1)))))))))
      (pss_one (ps_ret pe_bl))),
    (sim_seq (sim_for (sim_rng1 (sim_cons sim_int sim_nil)) sim_gname (sim_seq (sim_set (sim_op ou_add (sim_call mono_R [false] (sim_cons (sim_call mono_R [true, false] (sim_cons sim_var (sim_cons (sim_lst (sim_cons sim_int (sim_cons sim_int (sim_cons sim_int sim_nil)))) sim_nil))) sim_nil)) (sim_call mono_R [true, false] (sim_cons sim_var (sim_cons (sim_op ou_I sim_int sim_int) sim_nil)))) sim_gname)
      (sim_seq (sim_par false false (sim_cons (sim_op ou_mul (sim_call mono_R [true, false] (sim_cons sim_var (sim_cons (sim_lst (sim_cons sim_int (sim_cons (sim_un uu_neg sim_int) sim_nil))) sim_nil))) (sim_call mono_R [true, false] (sim_cons sim_var (sim_cons (sim_op ou_I sim_int sim_int) sim_nil)))) (sim_cons (sim_op ou_mul (sim_call mono_R [true, false] (sim_cons sim_var (sim_cons (sim_lst (sim_cons sim_int (sim_cons (sim_un uu_neg sim_int) sim_nil))) sim_nil))) (sim_op ou_add sim_int (sim_call mono_R [true, false] (sim_cons sim_var (sim_cons (sim_op ou_I sim_int sim_int) sim_nil))))) sim_nil)) (by decide))
      (sim_seq (sim_set (sim_if (sim_tru sim_var) (sim_callN mono_F sim_nil (sim_cons (sim_op ou_mul sim_var sim_var) (sim_cons (sim_op ou_mul sim_var sim_var) sim_nil))) (sim_call mono_F [false, false] (sim_cons (sim_op ou_mul sim_var sim_var) (sim_cons (sim_op ou_mul sim_var sim_var) sim_nil)))) sim_gname)
      (sim_seq (sim_ifs (sim_or (sim_not (sim_tru (sim_call mono_F [false, false] (sim_cons sim_var (sim_cons (sim_call mono_F [false, false] (sim_cons sim_var (sim_cons sim_var sim_nil))) sim_nil))))) (sim_or (sim_not (sim_tru (sim_call mono_F [false, false] (sim_cons (sim_call mono_F [false, false] (sim_cons sim_int (sim_cons (sim_op ou_mul sim_var sim_var) sim_nil))) (sim_cons (sim_tup (sim_cons sim_int (sim_cons sim_int sim_nil))) sim_nil))))) (sim_not (sim_tru (sim_call mono_F [false, false] (sim_cons (sim_call mono_F [false, false] (sim_cons (sim_un uu_neg sim_var) (sim_cons sim_var sim_nil))) (sim_cons (sim_tup (sim_cons (sim_un uu_neg sim_int) (sim_cons sim_int sim_nil))) sim_nil))))))) (sim_ret sim_bl) sim_next)
      (sim_set (sim_notv sim_var) sim_gname))))))
      (sim_ret sim_bl)), rd__law_made_right⟩

theorem ok_law {P : Program} {w : World} {K : PySem.W.Frag} {mg : Str → Option Value} {base : Heap} {a : Adr} (C : Txt K mg a) : FnOk P w K mg base CX0 8 a.f_law a.d_law ["script"] (lift K sp_law) := by
  refine dfn C.F_law sc_law (len_F fun _ => rfl) fun cdv A outer s H E Φ hr => ⟨_, T_law, (pss_cons (ps_for PassesOwn.never rfl (pi_range1 (by rfl) C.n_range (pa_cons (pe_callB (call_max2 rfl) (by rfl) C.n_max PyProof.Rows.boot_max (pa_cons pe_int (pa_cons (pe_callB (call_min2 rfl) (by rfl) C.n_min PyProof.Rows.boot_min (pa_cons pe_int (pa_cons (pe_callB call_len_seq (by rfl) C.n_len PySem.boot_len (pa_cons (pv 0) pa_nil)) pa_nil))) pa_nil))) pa_nil)) (pg_name (i := 1) sc_law.nd rfl (Or.inl rfl)) (pss_cons (ps_set (i := 2) sc_law.nd rfl (Or.inl rfl) (pe_call (ok__law_box C) (hr.mono (by decide)) (by rfl) C.g__law_box C.F__law_box.kp (b__law_box C) .nil pass0 (pa_cons (pe_call (ok__law_cell C) (hr.mono (by decide)) (by rfl) C.g__law_cell C.F__law_cell.kp (b__law_cell C) .nil pass0 (pa_cons (pv 0) (pa_cons (pv 1) pa_nil))) pa_nil)))
      (pss_cons (ps_par (i := 3) (j := 4) (by rfl) sc_law.nd rfl rfl (by decide) rfl rfl (pa_cons (pe_cmpR (op_eqD hr.units) (pe_call (ok__law_take C) (hr.mono (by decide)) (by rfl) C.g__law_take C.F__law_take.kp (b__law_take C) .nil pass0 (pa_cons (pv 2) (pa_cons pe_int pa_nil))) pe_int (nomark _)) (pa_cons (pe_call (ok__law_five C) (hr.mono (by decide)) (by rfl) C.g__law_five C.F__law_five.kp (b__law_five C) .nil pass0 (pa_cons (pv 2) pa_nil)) pa_nil)) (by rfl))
      (pss_cons (ps_for PassesOwn.never rfl (pi_seq (pv 4)) (pg_name (i := 5) sc_law.nd rfl (Or.inl rfl)) (pss_one (ps_for PassesOwn.never rfl (pi_seq (pe_slice sl_list (pe_call (ok__law_mixed C) (hr.mono (by decide)) (by rfl) C.g__law_mixed C.F__law_mixed.kp (b__law_mixed C) .nil pass0 (pa_cons (pv 2) (pa_cons (pv 4) pa_nil))) po_none (po_some pe_int))) (pg_name (i := 6) sc_law.nd rfl (Or.inl rfl)) (pss_cons (ps_if (pt_not (pt_truth (pe_call (ok__law_two_right C) (hr.mono (by decide)) (by rfl) C.g__law_two_right C.F__law_two_right.kp (b__law_two_right C) .nil pass0 (pa_cons (pv 5) (pa_cons (pv 6) (pa_cons (pv 3) pa_nil)))) (fun _ => rfl))) (pss_one (ps_ret pe_bl)) pss_nil)
      (pss_one (ps_set (i := 3) sc_law.nd rfl (Or.inl rfl) (pe_not (pv 3))))))))
      (pss_cons (ps_for PassesOwn.never rfl (pi_range1 (by rfl) C.n_range (pa_cons pe_int pa_nil)) (pg_name (i := 7) sc_law.nd rfl (Or.inl rfl)) (pss_cons (ps_asg (pe_slice sl_list (pe_call (ok__law_mixed C) (hr.mono (by decide)) (by rfl) C.g__law_mixed C.F__law_mixed.kp (b__law_mixed C) .nil pass0 (pa_cons (pv 2) (pa_cons (pv 4) pa_nil))) po_none (po_some pe_int)) (pg_any rfl (pgs_cons (pg_name (i := 5) sc_law.nd rfl (Or.inl rfl)) (pgs_cons (pg_name (i := 6) sc_law.nd rfl (Or.inl rfl)) (pgs_cons (pg_name (i := 8) sc_law.nd rfl (Or.inl rfl)) pgs_nil)))))
      (pss_one (ps_if (pt_not (pt_truth (pe_call (ok__law_three_right C) (hr.mono (by decide)) (by rfl) C.g__law_three_right C.F__law_three_right.kp (b__law_three_right C) .nil pass0 (pa_cons (pv 5) (pa_cons (pv 6) (pa_cons (pv 8) (pa_cons (pv 3) pa_nil))))) (fun _ => rfl))) (pss_one (ps_ret pe_bl)) pss_nil))))
      (pss_one (ps_if (PW.pt (pw_or (pt_not (pt_truth (pe_call (ok__law_rows_right C) (hr.mono (by decide)) (by rfl) C.g__law_rows_right C.F__law_rows_right.kp (b__law_rows_right C) .nil pass0 (pa_cons (pv 2) (pa_cons (pv 4) (pa_cons (pv 3) pa_nil)))) (fun _ => rfl))) (pw_or1 (pt_not (pt_truth (pe_call (ok__law_made_right C) (hr.mono (by decide)) (by rfl) C.g__law_made_right C.F__law_made_right.kp (b__law_made_right C) .nil pass0 (pa_cons (pv 2) (pa_cons (pe_not (pv 3)) pa_nil))) (fun _ => rfl)))))) (pss_one (ps_ret pe_bl)) pss_nil)))))))
      (pss_one (ps_ret pe_bl))),
    (sim_seq (sim_for (sim_rng1 (sim_cons (sim_cb cu_max (sim_cons sim_int (sim_cons (sim_cb cu_min (sim_cons sim_int (sim_cons (sim_cb cu_len (sim_cons sim_var sim_nil)) sim_nil))) sim_nil))) sim_nil)) sim_gname (sim_seq (sim_setO (sim_call mono_R [false] (sim_cons (sim_call mono_R [false, false] (sim_cons sim_var (sim_cons sim_var sim_nil))) sim_nil)))
      (sim_seq (sim_par false false (sim_cons (sim_op ou_eq (sim_call mono_R [true, false] (sim_cons sim_var (sim_cons sim_int sim_nil))) sim_int) (sim_cons (sim_call mono_R [true] (sim_cons sim_var sim_nil)) sim_nil)) (by decide))
      (sim_seq (sim_for (sim_iseq sim_var) sim_gname (sim_for (sim_iseq (sim_slL (sim_call mono_R [true, false] (sim_cons sim_var (sim_cons sim_var sim_nil))) sim_nopart (sim_part sim_int))) sim_gname (sim_seq (sim_ifs (sim_not (sim_tru (sim_call mono_F [false, false, false] (sim_cons sim_var (sim_cons sim_var (sim_cons sim_var sim_nil)))))) (sim_ret sim_bl) sim_next)
      (sim_set (sim_notv sim_var) sim_gname))))
      (sim_seq (sim_for (sim_rng1 (sim_cons sim_int sim_nil)) sim_gname (sim_seq (sim_set (sim_slL (sim_call mono_R [true, false] (sim_cons sim_var (sim_cons sim_var sim_nil))) sim_nopart (sim_part sim_int)) (sim_gany (sim_gcons (sim_gcons (sim_gcons sim_gnil)))))
      (sim_ifs (sim_not (sim_tru (sim_call mono_F [false, false, false, false] (sim_cons sim_var (sim_cons sim_var (sim_cons sim_var (sim_cons sim_var sim_nil))))))) (sim_ret sim_bl) sim_next)))
      (sim_ifs (sim_or (sim_not (sim_tru (sim_call mono_R [true, false, false] (sim_cons sim_var (sim_cons sim_var (sim_cons sim_var sim_nil)))))) (sim_not (sim_tru (sim_call mono_R [true, false] (sim_cons sim_var (sim_cons (sim_notv sim_var) sim_nil)))))) (sim_ret sim_bl) sim_next))))))
      (sim_ret sim_bl)), rd_law⟩

end DL
namespace DL
open PySem L2
theorem rpa_ints {K : PySem.W.Frag} {H : Hp} {M : Addr → Prop} : ∀ ns : List Int, RpA K H M (ns.map D.int) (ns.map V.int)
  | [] => rfl
  | _ :: r => ⟨_, _, rfl, rfl, rpa_ints r⟩
theorem law_in {K : PySem.W.Frag} {H : Hp} {a : Addr} {ns : List Int} (hl : ns.length ≤ 63) (hS : SqL K H a (ns.map V.int)) : lift K sp_law [.ref a] H (fun v _ => v = .bl true) fun _ _ _ => False := by
  refine ⟨[.imm (.fz (ns.map D.int))], fun _ => False, fun _ h => h.elim, ⟨⟨a, _, rfl, ?_, rpa_ints ns⟩, trivial⟩, rfl, ns, rfl, hl, ?_⟩
  · rcases hS with h | h
    · exact .inl ⟨h, fun h => h⟩
    · exact .inr h
  · rintro v H' _ g
    exact g.all _ List.mem_cons_self
section
theorem fnAt {K : PySem.W.Frag} {h : Heap} {mg : Str → Option Value} {x : Str} {st : Stmt} {f : Addr} {oc : Value} {od an : Option Addr} {sl : Array (Option Value)} {kV dc pm cd ct : Value} (X : K.In h) (G : h.Ns mainGlobals mg)
    (a : PySem.W.nsIn K mainGlobals x = some (some (.ref f))) (l : K.lookup f = some ⟨oc, od, .func (PySem.W.fnOf x x (defArgs st) (defBody st) (defScope st) .none kV dc pm an cd ct), sl⟩) (c : PySem.W.codeIn K cd x = true) (k : PySem.W.keepIn K (.ref f) = true) :
    ∃ f fd, mg x = some (.ref f) ∧ Fun K x x st f fd := ⟨f, _, PySem.W.mg_of X G a, fun_mk l c k⟩
theorem all_mk {P : Program} {w : World} {K : PySem.W.Frag} {h : Heap} {mg : Str → Option Value} {fa : Addr} (X : K.In h) (G : h.Ns mainGlobals mg) (hfa : mg "law" = some (.ref fa))
    (h_lowest : ∃ f fd, mg "lowest" = some (.ref f) ∧ Fun K "lowest" "lowest" (top 7) f fd)
    (h_added : ∃ f fd, mg "added" = some (.ref f) ∧ Fun K "added" "added" (top 8) f fd)
    (h_lessened : ∃ f fd, mg "lessened" = some (.ref f) ∧ Fun K "lessened" "lessened" (top 9) f fd)
    (h_multiplied : ∃ f fd, mg "multiplied" = some (.ref f) ∧ Fun K "multiplied" "multiplied" (top 10) f fd)
    (h_divided : ∃ f fd, mg "divided" = some (.ref f) ∧ Fun K "divided" "divided" (top 11) f fd)
    (h_is_less : ∃ f fd, mg "is_less" = some (.ref f) ∧ Fun K "is_less" "is_less" (top 12) f fd)
    (h_is_integer : ∃ f fd, mg "is_integer" = some (.ref f) ∧ Fun K "is_integer" "is_integer" (top 14) f fd)
    (h_is_tuple : ∃ f fd, mg "is_tuple" = some (.ref f) ∧ Fun K "is_tuple" "is_tuple" (top 15) f fd)
    (h_is_fraction : ∃ f fd, mg "is_fraction" = some (.ref f) ∧ Fun K "is_fraction" "is_fraction" (top 17) f fd)
    (h_check_fractions : ∃ f fd, mg "check_fractions" = some (.ref f) ∧ Fun K "check_fractions" "check_fractions" (top 18) f fd)
    (h_fraction : ∃ f fd, mg "fraction" = some (.ref f) ∧ Fun K "fraction" "fraction" (top 19) f fd)
    (h_plus : ∃ f fd, mg "plus" = some (.ref f) ∧ Fun K "plus" "plus" (top 20) f fd)
    (h_minus : ∃ f fd, mg "minus" = some (.ref f) ∧ Fun K "minus" "minus" (top 21) f fd)
    (h_times : ∃ f fd, mg "times" = some (.ref f) ∧ Fun K "times" "times" (top 22) f fd)
    (h_over : ∃ f fd, mg "over" = some (.ref f) ∧ Fun K "over" "over" (top 23) f fd)
    (h_below : ∃ f fd, mg "below" = some (.ref f) ∧ Fun K "below" "below" (top 24) f fd)
    (h__law_cell : ∃ f fd, mg "_law_cell" = some (.ref f) ∧ Fun K "_law_cell" "_law_cell" (top 26) f fd)
    (h__law_box : ∃ f fd, mg "_law_box" = some (.ref f) ∧ Fun K "_law_box" "_law_box" (top 27) f fd)
    (h__law_take : ∃ f fd, mg "_law_take" = some (.ref f) ∧ Fun K "_law_take" "_law_take" (top 28) f fd)
    (h__law_pick : ∃ f fd, mg "_law_pick" = some (.ref f) ∧ Fun K "_law_pick" "_law_pick" (top 29) f fd)
    (h__law_mixed : ∃ f fd, mg "_law_mixed" = some (.ref f) ∧ Fun K "_law_mixed" "_law_mixed" (top 30) f fd)
    (h__law_same : ∃ f fd, mg "_law_same" = some (.ref f) ∧ Fun K "_law_same" "_law_same" (top 31) f fd)
    (h__law_low : ∃ f fd, mg "_law_low" = some (.ref f) ∧ Fun K "_law_low" "_law_low" (top 32) f fd)
    (h__law_plus : ∃ f fd, mg "_law_plus" = some (.ref f) ∧ Fun K "_law_plus" "_law_plus" (top 33) f fd)
    (h__law_minus : ∃ f fd, mg "_law_minus" = some (.ref f) ∧ Fun K "_law_minus" "_law_minus" (top 34) f fd)
    (h__law_times : ∃ f fd, mg "_law_times" = some (.ref f) ∧ Fun K "_law_times" "_law_times" (top 35) f fd)
    (h__law_over : ∃ f fd, mg "_law_over" = some (.ref f) ∧ Fun K "_law_over" "_law_over" (top 36) f fd)
    (h__law_less : ∃ f fd, mg "_law_less" = some (.ref f) ∧ Fun K "_law_less" "_law_less" (top 37) f fd)
    (h__law_sum : ∃ f fd, mg "_law_sum" = some (.ref f) ∧ Fun K "_law_sum" "_law_sum" (top 38) f fd)
    (h__law_number : ∃ f fd, mg "_law_number" = some (.ref f) ∧ Fun K "_law_number" "_law_number" (top 39) f fd)
    (h__law_power : ∃ f fd, mg "_law_power" = some (.ref f) ∧ Fun K "_law_power" "_law_power" (top 40) f fd)
    (h__law_great : ∃ f fd, mg "_law_great" = some (.ref f) ∧ Fun K "_law_great" "_law_great" (top 41) f fd)
    (h__law_five : ∃ f fd, mg "_law_five" = some (.ref f) ∧ Fun K "_law_five" "_law_five" (top 42) f fd)
    (h__law_two_right : ∃ f fd, mg "_law_two_right" = some (.ref f) ∧ Fun K "_law_two_right" "_law_two_right" (top 43) f fd)
    (h__law_three_right : ∃ f fd, mg "_law_three_right" = some (.ref f) ∧ Fun K "_law_three_right" "_law_three_right" (top 44) f fd)
    (h__law_rows_right : ∃ f fd, mg "_law_rows_right" = some (.ref f) ∧ Fun K "_law_rows_right" "_law_rows_right" (top 45) f fd)
    (h__law_made_right : ∃ f fd, mg "_law_made_right" = some (.ref f) ∧ Fun K "_law_made_right" "_law_made_right" (top 46) f fd)
    (h_law : ∃ f fd, mg "law" = some (.ref f) ∧ Fun K "law" "law" (top 47) f fd)
    {zZERO : Addr} (m_ZERO : PySem.W.nsIn K mainGlobals "ZERO" = some (some (.ref zZERO))) {ddZERO : Option Addr} {nnZERO : Nat} {slZERO : Array (Option Value)} {tZERO0 tZERO1 : Tok} (t_ZERO : K.lookup zZERO = some ⟨.type "tuple", ddZERO, .seq #[.int 0 tZERO0, .int 1 tZERO1] nnZERO, slZERO⟩)
    (n_abs : PySem.W.nsIn K mainGlobals "abs" = some none)
    (n_bool : PySem.W.nsIn K mainGlobals "bool" = some none)
    (n_int : PySem.W.nsIn K mainGlobals "int" = some none)
    (n_isinstance : PySem.W.nsIn K mainGlobals "isinstance" = some none)
    (n_len : PySem.W.nsIn K mainGlobals "len" = some none)
    (n_list : PySem.W.nsIn K mainGlobals "list" = some none)
    (n_max : PySem.W.nsIn K mainGlobals "max" = some none)
    (n_min : PySem.W.nsIn K mainGlobals "min" = some none)
    (n_range : PySem.W.nsIn K mainGlobals "range" = some none)
    (n_str : PySem.W.nsIn K mainGlobals "str" = some none)
    (n_sum : PySem.W.nsIn K mainGlobals "sum" = some none)
    (n_tuple : PySem.W.nsIn K mainGlobals "tuple" = some none)
    (i_gcd : PySem.W.nsIn K mainGlobals "gcd" = some (some (.builtin "math.gcd")))
    : ∃ fd : FuncData, (∀ (s : Shared) (v : Value), BindsTo s fd ⟨[v], []⟩ [("script", v)]) ∧ ∀ base : Heap, K.In base → base.Ns mainGlobals mg → FnOk P w K mg base CX0 8 fa fd ["script"] (lift K sp_law) := by
  obtain ⟨f_lowest, d_lowest, g_lowest, F_lowest⟩ := h_lowest
  obtain ⟨f_added, d_added, g_added, F_added⟩ := h_added
  obtain ⟨f_lessened, d_lessened, g_lessened, F_lessened⟩ := h_lessened
  obtain ⟨f_multiplied, d_multiplied, g_multiplied, F_multiplied⟩ := h_multiplied
  obtain ⟨f_divided, d_divided, g_divided, F_divided⟩ := h_divided
  obtain ⟨f_is_less, d_is_less, g_is_less, F_is_less⟩ := h_is_less
  obtain ⟨f_is_integer, d_is_integer, g_is_integer, F_is_integer⟩ := h_is_integer
  obtain ⟨f_is_tuple, d_is_tuple, g_is_tuple, F_is_tuple⟩ := h_is_tuple
  obtain ⟨f_is_fraction, d_is_fraction, g_is_fraction, F_is_fraction⟩ := h_is_fraction
  obtain ⟨f_check_fractions, d_check_fractions, g_check_fractions, F_check_fractions⟩ := h_check_fractions
  obtain ⟨f_fraction, d_fraction, g_fraction, F_fraction⟩ := h_fraction
  obtain ⟨f_plus, d_plus, g_plus, F_plus⟩ := h_plus
  obtain ⟨f_minus, d_minus, g_minus, F_minus⟩ := h_minus
  obtain ⟨f_times, d_times, g_times, F_times⟩ := h_times
  obtain ⟨f_over, d_over, g_over, F_over⟩ := h_over
  obtain ⟨f_below, d_below, g_below, F_below⟩ := h_below
  obtain ⟨f__law_cell, d__law_cell, g__law_cell, F__law_cell⟩ := h__law_cell
  obtain ⟨f__law_box, d__law_box, g__law_box, F__law_box⟩ := h__law_box
  obtain ⟨f__law_take, d__law_take, g__law_take, F__law_take⟩ := h__law_take
  obtain ⟨f__law_pick, d__law_pick, g__law_pick, F__law_pick⟩ := h__law_pick
  obtain ⟨f__law_mixed, d__law_mixed, g__law_mixed, F__law_mixed⟩ := h__law_mixed
  obtain ⟨f__law_same, d__law_same, g__law_same, F__law_same⟩ := h__law_same
  obtain ⟨f__law_low, d__law_low, g__law_low, F__law_low⟩ := h__law_low
  obtain ⟨f__law_plus, d__law_plus, g__law_plus, F__law_plus⟩ := h__law_plus
  obtain ⟨f__law_minus, d__law_minus, g__law_minus, F__law_minus⟩ := h__law_minus
  obtain ⟨f__law_times, d__law_times, g__law_times, F__law_times⟩ := h__law_times
  obtain ⟨f__law_over, d__law_over, g__law_over, F__law_over⟩ := h__law_over
  obtain ⟨f__law_less, d__law_less, g__law_less, F__law_less⟩ := h__law_less
  obtain ⟨f__law_sum, d__law_sum, g__law_sum, F__law_sum⟩ := h__law_sum
  obtain ⟨f__law_number, d__law_number, g__law_number, F__law_number⟩ := h__law_number
  obtain ⟨f__law_power, d__law_power, g__law_power, F__law_power⟩ := h__law_power
  obtain ⟨f__law_great, d__law_great, g__law_great, F__law_great⟩ := h__law_great
  obtain ⟨f__law_five, d__law_five, g__law_five, F__law_five⟩ := h__law_five
  obtain ⟨f__law_two_right, d__law_two_right, g__law_two_right, F__law_two_right⟩ := h__law_two_right
  obtain ⟨f__law_three_right, d__law_three_right, g__law_three_right, F__law_three_right⟩ := h__law_three_right
  obtain ⟨f__law_rows_right, d__law_rows_right, g__law_rows_right, F__law_rows_right⟩ := h__law_rows_right
  obtain ⟨f__law_made_right, d__law_made_right, g__law_made_right, F__law_made_right⟩ := h__law_made_right
  obtain ⟨f_law, d_law, g_law, F_law⟩ := h_law
  have e := hfa.symm.trans g_law
  cases e
  let A : Adr := ⟨f_lowest, d_lowest, f_added, d_added, f_lessened, d_lessened, f_multiplied, d_multiplied, f_divided, d_divided, f_is_less, d_is_less, f_is_integer, d_is_integer, f_is_tuple, d_is_tuple, f_is_fraction, d_is_fraction, f_check_fractions, d_check_fractions, f_fraction, d_fraction, f_plus, d_plus, f_minus, d_minus, f_times, d_times, f_over, d_over, f_below, d_below, f__law_cell, d__law_cell, f__law_box, d__law_box, f__law_take, d__law_take, f__law_pick, d__law_pick, f__law_mixed, d__law_mixed, f__law_same, d__law_same, f__law_low, d__law_low, f__law_plus, d__law_plus, f__law_minus, d__law_minus, f__law_times, d__law_times, f__law_over, d__law_over, f__law_less, d__law_less, f__law_sum, d__law_sum, f__law_number, d__law_number, f__law_power, d__law_power, f__law_great, d__law_great, f__law_five, d__law_five, f__law_two_right, d__law_two_right, f__law_three_right, d__law_three_right, f__law_rows_right, d__law_rows_right, f__law_made_right, d__law_made_right, fa, d_law, zZERO⟩
  have C : Txt K mg A := ⟨F_lowest, g_lowest, F_added, g_added, F_lessened, g_lessened, F_multiplied, g_multiplied, F_divided, g_divided, F_is_less, g_is_less, F_is_integer, g_is_integer, F_is_tuple, g_is_tuple, F_is_fraction, g_is_fraction, F_check_fractions, g_check_fractions, F_fraction, g_fraction, F_plus, g_plus, F_minus, g_minus, F_times, g_times, F_over, g_over, F_below, g_below, F__law_cell, g__law_cell, F__law_box, g__law_box, F__law_take, g__law_take, F__law_pick, g__law_pick, F__law_mixed, g__law_mixed, F__law_same, g__law_same, F__law_low, g__law_low, F__law_plus, g__law_plus, F__law_minus, g__law_minus, F__law_times, g__law_times, F__law_over, g__law_over, F__law_less, g__law_less, F__law_sum, g__law_sum, F__law_number, g__law_number, F__law_power, g__law_power, F__law_great, g__law_great, F__law_five, g__law_five, F__law_two_right, g__law_two_right, F__law_three_right, g__law_three_right, F__law_rows_right, g__law_rows_right, F__law_made_right, g__law_made_right, F_law, g_law, PySem.W.mg_of X G m_ZERO, (fun _ _ => ⟨_, _, rfl, .inr (show WrT K zZERO [.int 0, .int 1] from ⟨_, _, _, t_ZERO, rfl, rfl, by show 2 ≤ sizeLine; decide, .cons ⟨_, rfl⟩ (.cons ⟨_, rfl⟩ (.nil))⟩), rpa_ints [0, 1]⟩), PySem.W.mg_none_of X G n_abs, PySem.W.mg_none_of X G n_bool, PySem.W.mg_none_of X G n_int, PySem.W.mg_none_of X G n_isinstance, PySem.W.mg_none_of X G n_len, PySem.W.mg_none_of X G n_list, PySem.W.mg_none_of X G n_max, PySem.W.mg_none_of X G n_min, PySem.W.mg_none_of X G n_range, PySem.W.mg_none_of X G n_str, PySem.W.mg_none_of X G n_sum, PySem.W.mg_none_of X G n_tuple, PySem.W.mg_of X G i_gcd⟩
  refine ⟨_, fun s v => ?_, fun base _ _ => ok_law C⟩
  obtain ⟨⟨oc, od, kV, doc, pm, an, cdv, ct, osl, rfl, l, c⟩, k⟩ := F_law
  exact .of_eq rfl
theorem walk {l : PySem.W.OpenLaw} {q : Program} {loose : List Str} {XP : (Str → Option Value) → Heap → Prop} {YP : World → Heap → Prop} {d : DefRec} {K : Params → PySem.W.Frag} (hn : l.most = some 63) (hdf : d.params.defaults = [])
    (hY : ∀ (w : World) (h : Heap), YP w h → (K w.params).In h)
    (F : ∀ (w : World) (mg : Str → Option Value) (fa : Addr) (h : Heap), (K w.params).In h → h.Ns mainGlobals mg → mg d.name = some (.ref fa) →
      ∃ fd : FuncData, (∀ (s : Shared) (u : Value), BindsTo s fd ⟨[u], []⟩ [("script", u)]) ∧ ∀ base : Heap, (K w.params).In base → base.Ns mainGlobals mg → FnOk l.prog w (K w.params) mg base CX0 8 fa fd ["script"] (lift (K w.params) sp_law)) :
    PySem.W.WalkO q loose XP YP l.row.toRowW d [] (fun f vs => PySem.call f vs) :=
  L2.walk_of (n := 63) (k := 8) (x := "script") (CX := fun _ => CX0) (sp := fun w => lift (K w.params) sp_law) hn (by decide) hdf ⟨rfl, by decide, by decide⟩ hY F (fun _ _ _ _ hl _ hS => law_in hl hS) fun _ _ _ _ _ z => z
end
end DL

open PySem PySem.W PyProof.Rows in
set_option maxRecDepth 100000 in
set_option maxHeartbeats 0 in
theorem PySem.Challenge.cw_ohmwide_k01_whole_fractions_as_a_field_holds : PySem.Challenge.rw_ohmwide_k01_whole_fractions_as_a_field.Holds := by
  w_on; o_law; k_head; (case hw => w_witness2)
  k_fill
  refine DL.walk (l := PySem.Challenge.rw_ohmwide_k01_whole_fractions_as_a_field) rfl rfl (fun w h Y => PySem.W.kIn_of Y) ?F
  case F =>
    intro w mg fa h KX G hmg
    refine' DL.all_mk KX G hmg ?h_lowest ?h_added ?h_lessened ?h_multiplied ?h_divided ?h_is_less ?h_is_integer ?h_is_tuple ?h_is_fraction ?h_check_fractions ?h_fraction ?h_plus ?h_minus ?h_times ?h_over ?h_below ?h__law_cell ?h__law_box ?h__law_take ?h__law_pick ?h__law_mixed ?h__law_same ?h__law_low ?h__law_plus ?h__law_minus ?h__law_times ?h__law_over ?h__law_less ?h__law_sum ?h__law_number ?h__law_power ?h__law_great ?h__law_five ?h__law_two_right ?h__law_three_right ?h__law_rows_right ?h__law_made_right ?h_law ?m_ZERO ?t_ZERO ?n_abs ?n_bool ?n_int ?n_isinstance ?n_len ?n_list ?n_max ?n_min ?n_range ?n_str ?n_sum ?n_tuple ?i_gcd
    (case h_lowest =>
      refine' DL.fnAt KX G ?a ?l ?c ?k
      (case a => k_is)
      (case l => k_is)
      (case c => k_is)
      (case k => k_is))
    (case h_added =>
      refine' DL.fnAt KX G ?a ?l ?c ?k
      (case a => k_is)
      (case l => k_is)
      (case c => k_is)
      (case k => k_is))
    (case h_lessened =>
      refine' DL.fnAt KX G ?a ?l ?c ?k
      (case a => k_is)
      (case l => k_is)
      (case c => k_is)
      (case k => k_is))
    (case h_multiplied =>
      refine' DL.fnAt KX G ?a ?l ?c ?k
      (case a => k_is)
      (case l => k_is)
      (case c => k_is)
      (case k => k_is))
    (case h_divided =>
      refine' DL.fnAt KX G ?a ?l ?c ?k
      (case a => k_is)
      (case l => k_is)
      (case c => k_is)
      (case k => k_is))
    (case h_is_less =>
      refine' DL.fnAt KX G ?a ?l ?c ?k
      (case a => k_is)
      (case l => k_is)
      (case c => k_is)
      (case k => k_is))
    (case h_is_integer =>
      refine' DL.fnAt KX G ?a ?l ?c ?k
      (case a => k_is)
      (case l => k_is)
      (case c => k_is)
      (case k => k_is))
    (case h_is_tuple =>
      refine' DL.fnAt KX G ?a ?l ?c ?k
      (case a => k_is)
      (case l => k_is)
      (case c => k_is)
      (case k => k_is))
    (case h_is_fraction =>
      refine' DL.fnAt KX G ?a ?l ?c ?k
      (case a => k_is)
      (case l => k_is)
      (case c => k_is)
      (case k => k_is))
    (case h_check_fractions =>
      refine' DL.fnAt KX G ?a ?l ?c ?k
      (case a => k_is)
      (case l => k_is)
      (case c => k_is)
      (case k => k_is))
    (case h_fraction =>
      refine' DL.fnAt KX G ?a ?l ?c ?k
      (case a => k_is)
      (case l => k_is)
      (case c => k_is)
      (case k => k_is))
    (case h_plus =>
      refine' DL.fnAt KX G ?a ?l ?c ?k
      (case a => k_is)
      (case l => k_is)
      (case c => k_is)
      (case k => k_is))
    (case h_minus =>
      refine' DL.fnAt KX G ?a ?l ?c ?k
      (case a => k_is)
      (case l => k_is)
      (case c => k_is)
      (case k => k_is))
    (case h_times =>
      refine' DL.fnAt KX G ?a ?l ?c ?k
      (case a => k_is)
      (case l => k_is)
      (case c => k_is)
      (case k => k_is))
    (case h_over =>
      refine' DL.fnAt KX G ?a ?l ?c ?k
      (case a => k_is)
      (case l => k_is)
      (case c => k_is)
      (case k => k_is))
    (case h_below =>
      refine' DL.fnAt KX G ?a ?l ?c ?k
      (case a => k_is)
      (case l => k_is)
      (case c => k_is)
      (case k => k_is))
    (case h__law_cell =>
      refine' DL.fnAt KX G ?a ?l ?c ?k
      (case a => k_is)
      (case l => k_is)
      (case c => k_is)
      (case k => k_is))
    (case h__law_box =>
      refine' DL.fnAt KX G ?a ?l ?c ?k
      (case a => k_is)
      (case l => k_is)
      (case c => k_is)
      (case k => k_is))
    (case h__law_take =>
      refine' DL.fnAt KX G ?a ?l ?c ?k
      (case a => k_is)
      (case l => k_is)
      (case c => k_is)
      (case k => k_is))
    (case h__law_pick =>
      refine' DL.fnAt KX G ?a ?l ?c ?k
      (case a => k_is)
      (case l => k_is)
      (case c => k_is)
      (case k => k_is))
    (case h__law_mixed =>
      refine' DL.fnAt KX G ?a ?l ?c ?k
      (case a => k_is)
      (case l => k_is)
      (case c => k_is)
      (case k => k_is))
    (case h__law_same =>
      refine' DL.fnAt KX G ?a ?l ?c ?k
      (case a => k_is)
      (case l => k_is)
      (case c => k_is)
      (case k => k_is))
    (case h__law_low =>
      refine' DL.fnAt KX G ?a ?l ?c ?k
      (case a => k_is)
      (case l => k_is)
      (case c => k_is)
      (case k => k_is))
    (case h__law_plus =>
      refine' DL.fnAt KX G ?a ?l ?c ?k
      (case a => k_is)
      (case l => k_is)
      (case c => k_is)
      (case k => k_is))
    (case h__law_minus =>
      refine' DL.fnAt KX G ?a ?l ?c ?k
      (case a => k_is)
      (case l => k_is)
      (case c => k_is)
      (case k => k_is))
    (case h__law_times =>
      refine' DL.fnAt KX G ?a ?l ?c ?k
      (case a => k_is)
      (case l => k_is)
      (case c => k_is)
      (case k => k_is))
    (case h__law_over =>
      refine' DL.fnAt KX G ?a ?l ?c ?k
      (case a => k_is)
      (case l => k_is)
      (case c => k_is)
      (case k => k_is))
    (case h__law_less =>
      refine' DL.fnAt KX G ?a ?l ?c ?k
      (case a => k_is)
      (case l => k_is)
      (case c => k_is)
      (case k => k_is))
    (case h__law_sum =>
      refine' DL.fnAt KX G ?a ?l ?c ?k
      (case a => k_is)
      (case l => k_is)
      (case c => k_is)
      (case k => k_is))
    (case h__law_number =>
      refine' DL.fnAt KX G ?a ?l ?c ?k
      (case a => k_is)
      (case l => k_is)
      (case c => k_is)
      (case k => k_is))
    (case h__law_power =>
      refine' DL.fnAt KX G ?a ?l ?c ?k
      (case a => k_is)
      (case l => k_is)
      (case c => k_is)
      (case k => k_is))
    (case h__law_great =>
      refine' DL.fnAt KX G ?a ?l ?c ?k
      (case a => k_is)
      (case l => k_is)
      (case c => k_is)
      (case k => k_is))
    (case h__law_five =>
      refine' DL.fnAt KX G ?a ?l ?c ?k
      (case a => k_is)
      (case l => k_is)
      (case c => k_is)
      (case k => k_is))
    (case h__law_two_right =>
      refine' DL.fnAt KX G ?a ?l ?c ?k
      (case a => k_is)
      (case l => k_is)
      (case c => k_is)
      (case k => k_is))
    (case h__law_three_right =>
      refine' DL.fnAt KX G ?a ?l ?c ?k
      (case a => k_is)
      (case l => k_is)
      (case c => k_is)
      (case k => k_is))
    (case h__law_rows_right =>
      refine' DL.fnAt KX G ?a ?l ?c ?k
      (case a => k_is)
      (case l => k_is)
      (case c => k_is)
      (case k => k_is))
    (case h__law_made_right =>
      refine' DL.fnAt KX G ?a ?l ?c ?k
      (case a => k_is)
      (case l => k_is)
      (case c => k_is)
      (case k => k_is))
    (case h_law =>
      refine' DL.fnAt KX G ?a ?l ?c ?k
      (case a => k_is)
      (case l => k_is)
      (case c => k_is)
      (case k => k_is))
    (case m_ZERO => k_is)
    (case t_ZERO => k_is)
    (case n_abs => k_is)
    (case n_bool => k_is)
    (case n_int => k_is)
    (case n_isinstance => k_is)
    (case n_len => k_is)
    (case n_list => k_is)
    (case n_max => k_is)
    (case n_min => k_is)
    (case n_range => k_is)
    (case n_str => k_is)
    (case n_sum => k_is)
    (case n_tuple => k_is)
    (case i_gcd => k_is)
