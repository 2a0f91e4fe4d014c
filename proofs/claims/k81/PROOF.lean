import PyProof.Rows.All
import Wide.All
import OpenK.AllK
import Wide.FinOn
import HandS.ForMost
import HandS.Exc
import HandS.TryOnly
import HandS.ExcOwn
import HandS.WordsExc
import HandS.CallSlots
import HandS.Flow
import HandS.Wide
import HandS.Rev
import HandS.RevRange
import HandS.WideBits
import HandS.HeadHook2
import HandS.TupAny
import HandS.TupMul
import PyProof.StrOps2
import HandS.Deep
import HandS.Style
import KE.DatumOrd
import HandS.SortInts
import HandS.StrMore
import KE.GoesRaise
import HandS.RaiseMore
import HandS.IsInst
import HandS.ExcIs
import HandS.Gcd
import HandS.More
import HandS.FStr
import HandS.Head0
import HandS.Head1
import HandS.Head2
import HandS.HeadEnd
import HandS.HeadHook3
import PySem.Challenge.RW_tensorcompiler_k81_both_sides_of_each_bo
set_option Elab.async false
set_option linter.all false
set_option maxRecDepth 100000
set_option maxHeartbeats 4000000
/-! Values without a heap, cells, and how they lie in the abstract heap. -/
namespace Dy
open PySem PySem.Spec PyProof.Rows L2

inductive D where
  | non | bl (b : Bool) | int (i : Int) | str (x : Str) | tup (ds : List D) | frl (ds : List D) | ref (n : Nat) | ty (n : String) | glb (x : Str)

mutual
/-- one more than the greatest cell's number that is named -/
def D.mr : D → Nat
  | .tup ds => mrL ds
  | .frl ds => mrL ds
  | .ref n => n + 1
  | .non => 0
  | .bl _ => 0
  | .int _ => 0
  | .str _ => 0
  | .ty _ => 0
  | .glb _ => 0
def mrL : List D → Nat
  | [] => 0
  | d :: ds => max d.mr (mrL ds)
end
def mrF : List (Str × D) → Nat
  | [] => 0
  | p :: r => max p.2.mr (mrF r)
def mrK : List (D × D) → Nat
  | [] => 0
  | p :: r => max (max p.1.mr p.2.mr) (mrK r)

inductive Cell where
  | lst (ds : List D)
  | inst (c : Str) (fs : List (Str × D))
  | dict (kvs : List (D × D))
def Cell.mr : Cell → Nat
  | .lst ds => mrL ds
  | .inst _ fs => mrF fs
  | .dict kvs => mrK kvs

structure PH where
  cs : List Cell
  lim : Nat

structure Wf (h : PH) : Prop where
  le : h.lim ≤ h.cs.length
  at_ : ∀ n c, h.cs[n]? = some c → c.mr ≤ max n h.lim

/-! ### how a value lies -/
/-- the written part; the slot and the address of the exception that an except suite holds -/
structure KX where
  K : PySem.W.Frag
  hx : Option (Nat × Addr)
instance : Coe KX PySem.W.Frag := ⟨KX.K⟩
def KX.J (K : KX) (σ : L2.St) : Prop := match K.hx with
  | none => True
  | some (i, a) => σ[i]? = some (some (.ref a))
def KX.can (K : KX) (i : Nat) : Prop := match K.hx with
  | none => True
  | some (j, _) => i ≠ j
theorem KX.J_set {K : KX} {σ : L2.St} {i : Nat} {o : Option V} (c : K.can i) (h : K.J σ) : K.J (σ.set i o) := by
  obtain ⟨F, hx⟩ := K
  cases hx with
  | none => trivial
  | some p =>
    obtain ⟨j, a⟩ := p
    have c' : i ≠ j := c
    have h' : σ[j]? = some (some (.ref a)) := h
    show (σ.set i o)[j]? = _
    rw [List.getElem?_set_ne c']; exact h'
theorem KX.J_wipe {K : KX} {σ : L2.St} : ∀ {vs : List Nat}, (∀ i ∈ vs, K.can i) → K.J σ → K.J (wipe σ vs)
  | [], _, h => h
  | v :: vs, c, h => KX.J_set (c v List.mem_cons_self) (KX.J_wipe (fun i hi => c i (List.mem_cons_of_mem _ hi)) h)
/-- a list that is only read -/
def FrzL (K : PySem.W.Frag) (H : Hp) (a : Addr) (xs : List V) : Prop :=
  (∃ o, H a = some (.frz o (.lst xs))) ∨ ∃ (o : Obj) (its : Array Value) (n : Nat), K.lookup a = some o ∧ o.cls = .type "list" ∧ o.dict = none ∧ o.data = .seq its n ∧ its.size ≤ sizeLine ∧ Vals xs its.toList
theorem FrzL.sq {K : PySem.W.Frag} {H : Hp} {a : Addr} {xs : List V} (h : FrzL K H a xs) : SqL K H a xs := by
  rcases h with h | h
  · exact .inl (.inr h)
  · exact .inr h
section
variable (K : KX) (ρ : List Addr) (H : Hp)
mutual
def Is : D → V → Prop
  | .non, v => v = .non
  | .bl b, v => v = .bl b
  | .int i, v => v = .int i
  | .str x, v => v = .str x
  | .tup ds, v => ∃ a xs, v = .ref a ∧ SqT K H a xs ∧ IsL ds xs
  | .frl ds, v => ∃ a xs, v = .ref a ∧ FrzL K H a xs ∧ IsL ds xs
  | .ref n, v => ∃ a, ρ[n]? = some a ∧ v = .ref a
  | .ty n, v => v = .ty n
  | .glb x, v => v = .ref (He.ga K x)
def IsL : List D → List V → Prop
  | [], xs => xs = []
  | d :: ds, xs => ∃ x r, xs = x :: r ∧ Is d x ∧ IsL ds r
end
def IsF : List (Str × D) → List (Str × V) → Prop
  | [], xs => xs = []
  | p :: r, xs => ∃ v s, xs = (p.1, v) :: s ∧ Is K ρ H p.2 v ∧ IsF r s
end

theorem IsL.length {K : KX} {ρ : List Addr} {H : Hp} : ∀ {ds : List D} {xs : List V}, IsL K ρ H ds xs → xs.length = ds.length
  | [], xs, h => by unfold IsL at h; subst h; rfl
  | d :: ds, xs, h => by
    unfold IsL at h
    obtain ⟨x, r, rfl, _, h2⟩ := h
    simp [IsL.length h2]

def TupsKeep (H H' : Hp) : Prop := (∀ a xs, H a = some (.tup xs) → H' a = some (.tup xs)) ∧ (∀ a o u, H a = some (.frz o u) → H' a = some (.frz o u))

theorem SqT.keep {K : PySem.W.Frag} {H H' : Hp} {a : Addr} {xs : List V} (k : TupsKeep H H') (h : SqT K H a xs) : SqT K H' a xs := by
  rcases h with (h | ⟨o, h⟩) | h
  · exact .inl (.inl (k.1 _ _ h))
  · exact .inl (.inr ⟨o, k.2 _ _ _ h⟩)
  · exact .inr h
theorem FrzL.keep {K : PySem.W.Frag} {H H' : Hp} {a : Addr} {xs : List V} (k : TupsKeep H H') (h : FrzL K H a xs) : FrzL K H' a xs := by
  rcases h with ⟨o, h⟩ | h
  · exact .inl ⟨o, k.2 _ _ _ h⟩
  · exact .inr h

mutual
theorem Is.mono {K : KX} {ρ ρ' : List Addr} {H H' : Hp} (k : TupsKeep H H') (n : Nat) (p : ∀ i, i < n → ∀ a, ρ[i]? = some a → ρ'[i]? = some a) : ∀ (d : D) (v : V), d.mr ≤ n → Is K ρ H d v → Is K ρ' H' d v
  | .non, v, _, h => by unfold Is at h ⊢; exact h
  | .bl b, v, _, h => by unfold Is at h ⊢; exact h
  | .int b, v, _, h => by unfold Is at h ⊢; exact h
  | .str b, v, _, h => by unfold Is at h ⊢; exact h
  | .ty b, v, _, h => by unfold Is at h ⊢; exact h
  | .glb b, v, _, h => by unfold Is at h ⊢; exact h
  | .ref m, v, l, h => by
    unfold Is at h ⊢
    unfold D.mr at l
    obtain ⟨a, e, r⟩ := h
    exact ⟨a, p m l a e, r⟩
  | .tup ds, v, l, h => by
    unfold Is at h ⊢
    unfold D.mr at l
    obtain ⟨a, xs, e, s, r⟩ := h
    exact ⟨a, xs, e, SqT.keep k s, IsL.mono k n p ds xs l r⟩
  | .frl ds, v, l, h => by
    unfold Is at h ⊢
    unfold D.mr at l
    obtain ⟨a, xs, e, s, r⟩ := h
    exact ⟨a, xs, e, FrzL.keep k s, IsL.mono k n p ds xs l r⟩
theorem IsL.mono {K : KX} {ρ ρ' : List Addr} {H H' : Hp} (k : TupsKeep H H') (n : Nat) (p : ∀ i, i < n → ∀ a, ρ[i]? = some a → ρ'[i]? = some a) : ∀ (ds : List D) (xs : List V), mrL ds ≤ n → IsL K ρ H ds xs → IsL K ρ' H' ds xs
  | [], xs, _, h => by unfold IsL at h ⊢; exact h
  | d :: ds, xs, l, h => by
    unfold IsL at h ⊢
    unfold mrL at l
    obtain ⟨x, r, e, h1, h2⟩ := h
    exact ⟨x, r, e, Is.mono k n p d x (by omega) h1, IsL.mono k n p ds r (by omega) h2⟩
end
theorem IsF.mono {K : KX} {ρ ρ' : List Addr} {H H' : Hp} (k : TupsKeep H H') (n : Nat) (p : ∀ i, i < n → ∀ a, ρ[i]? = some a → ρ'[i]? = some a) : ∀ (ds : List (Str × D)) (xs : List (Str × V)), mrF ds ≤ n → IsF K ρ H ds xs → IsF K ρ' H' ds xs
  | [], xs, _, h => by unfold IsF at h ⊢; exact h
  | d :: ds, xs, l, h => by
    unfold IsF at h ⊢
    unfold mrF at l
    obtain ⟨x, r, e, h1, h2⟩ := h
    exact ⟨x, r, e, Is.mono k n p d.2 x (by omega) h1, IsF.mono k n p ds r (by omega) h2⟩

/-- a pair of a dict, flat -/
def dkV : D × D → Option (Key × V)
  | (.str k, .int v) => some (.inr k, .int v)
  | (.str k, .str v) => some (.inr k, .str v)
  | _ => none
/-- a cell at an address -/
def CellIs (K : KX) (ρ : List Addr) (H : Hp) (a : Addr) : Cell → Prop
  | .lst ds => ∃ xs, H a = some (.lst xs) ∧ IsL K ρ H ds xs
  | .inst c fs => ∃ dx vs, H a = some (.ins (He.ga K c) dx vs) ∧ IsF K ρ H fs vs
  | .dict kvs => ∃ xs, H a = some (.dK xs) ∧ kvs.map dkV = xs.map some

structure HRel (K : KX) (ρ : List Addr) (H : Hp) (cs : List Cell) : Prop where
  len : ρ.length = cs.length
  nd : ρ.Nodup
  at_ : ∀ (n : Nat) (c : Cell) (a : Addr), cs[n]? = some c → ρ[n]? = some a → CellIs K ρ H a c

abbrev Env := List (Option D)
structure EnvIs (K : KX) (ρ : List Addr) (H : Hp) (env : Env) (σ : L2.St) : Prop where
  len : env.length = σ.length
  at_ : ∀ (i : Nat) (d : D), env[i]? = some (some d) → ∃ v, σ[i]? = some (some v) ∧ Is K ρ H d v
  inv : K.J σ
def EnvWf (env : Env) (n : Nat) : Prop := ∀ (i : Nat) (d : D), env[i]? = some (some d) → d.mr ≤ n

/-- the state beyond (ρ, H): cells come beside; what is no cell stands as it stood -/
structure Ext (K : KX) (ρ : List Addr) (H : Hp) (h' : PH) (ρ' : List Addr) (H' : Hp) : Prop where
  pre : ∃ m, ρ' = ρ ++ m
  fresh : ∀ a ∈ ρ', a ∉ ρ → H a = none
  frame : ∀ a o, a ∉ ρ → H a = some o → H' a = some o
  kept : TupsKeep H H'
  rel : HRel K ρ' H' h'.cs
  wf : Wf h'

theorem TupsKeep.refl (H : Hp) : TupsKeep H H := ⟨fun _ _ h => h, fun _ _ _ h => h⟩
theorem TupsKeep.trans {H H1 H2 : Hp} (a : TupsKeep H H1) (b : TupsKeep H1 H2) : TupsKeep H H2 := ⟨fun x xs h => b.1 x xs (a.1 x xs h), fun x o u h => b.2 x o u (a.2 x o u h)⟩
theorem Ext.refl {K : KX} {ρ : List Addr} {H : Hp} {h : PH} (r : HRel K ρ H h.cs) (w : Wf h) : Ext K ρ H h ρ H :=
  ⟨⟨[], by simp⟩, fun a h1 h2 => absurd h1 h2, fun _ _ _ h => h, TupsKeep.refl H, r, w⟩
theorem Ext.trans {K : KX} {ρ ρ1 ρ2 : List Addr} {H H1 H2 : Hp} {h1 h2 : PH} (a : Ext K ρ H h1 ρ1 H1) (b : Ext K ρ1 H1 h2 ρ2 H2) : Ext K ρ H h2 ρ2 H2 := by
  obtain ⟨m1, e1⟩ := a.pre
  obtain ⟨m2, e2⟩ := b.pre
  refine ⟨⟨m1 ++ m2, by rw [e2, e1, List.append_assoc]⟩, fun x hx hn => ?_, fun x o hn hx => ?_, a.kept.trans b.kept, b.rel, b.wf⟩
  · by_cases h : x ∈ ρ1
    · exact a.fresh x h hn
    · have z := b.fresh x hx h
      cases q : H x with
      | none => rfl
      | some o => rw [a.frame x o hn q] at z; cases z
  · have z := a.frame x o hn hx
    refine b.frame x o (fun h => ?_) z
    have y := a.fresh x h hn
    rw [y] at hx; cases hx
theorem Ext.at_ {K : KX} {ρ ρ1 : List Addr} {H H1 : Hp} {h1 : PH} (a : Ext K ρ H h1 ρ1 H1) : ∀ i, i < ρ.length → ∀ x, ρ[i]? = some x → ρ1[i]? = some x := by
  obtain ⟨m, rfl⟩ := a.pre
  intro i hi x h
  rw [List.getElem?_append_left hi]; exact h
theorem Ext.le {K : KX} {ρ ρ1 : List Addr} {H H1 : Hp} {h1 : PH} (a : Ext K ρ H h1 ρ1 H1) : ρ.length ≤ h1.cs.length := by
  obtain ⟨m, e⟩ := a.pre
  rw [← a.rel.len, e, List.length_append]; omega
theorem Ext.is {K : KX} {ρ ρ1 : List Addr} {H H1 : Hp} {h1 : PH} (a : Ext K ρ H h1 ρ1 H1) {d : D} {v : V} (l : d.mr ≤ ρ.length) (h : Is K ρ H d v) : Is K ρ1 H1 d v := Is.mono a.kept _ a.at_ d v l h
theorem Ext.isL {K : KX} {ρ ρ1 : List Addr} {H H1 : Hp} {h1 : PH} (a : Ext K ρ H h1 ρ1 H1) {ds : List D} {xs : List V} (l : mrL ds ≤ ρ.length) (h : IsL K ρ H ds xs) : IsL K ρ1 H1 ds xs := IsL.mono a.kept _ a.at_ ds xs l h
theorem Ext.envIs {K : KX} {ρ ρ1 : List Addr} {H H1 : Hp} {h1 : PH} (a : Ext K ρ H h1 ρ1 H1) {env : Env} {σ : L2.St} (w : EnvWf env ρ.length) (h : EnvIs K ρ H env σ) : EnvIs K ρ1 H1 env σ :=
  ⟨h.len, fun i d e => let ⟨v, e1, e2⟩ := h.at_ i d e; ⟨v, e1, a.is (w i d e) e2⟩, h.inv⟩
theorem EnvWf.mono {env : Env} {n m : Nat} (w : EnvWf env n) (h : n ≤ m) : EnvWf env m := fun i d e => Nat.le_trans (w i d e) h

/-- the whole relation -/
structure Rel (K : KX) (ρ : List Addr) (env : Env) (h : PH) (σ : L2.St) (H : Hp) : Prop where
  eis : EnvIs K ρ H env σ
  heap : HRel K ρ H h.cs
  wf : Wf h
  ewf : EnvWf env h.cs.length
theorem Rel.len {K : KX} {ρ : List Addr} {env : Env} {h : PH} {σ : L2.St} {H : Hp} (r : Rel K ρ env h σ H) : ρ.length = h.cs.length := r.heap.len
theorem Rel.ext {K : KX} {ρ ρ1 : List Addr} {env : Env} {h h1 : PH} {σ : L2.St} {H H1 : Hp} (r : Rel K ρ env h σ H) (a : Ext K ρ H h1 ρ1 H1) : Rel K ρ1 env h1 σ H1 :=
  ⟨a.envIs (by rw [r.len]; exact r.ewf) r.eis, a.rel, a.wf, r.ewf.mono (by have := a.le; rw [r.len] at this; exact this)⟩
theorem Rel.refl {K : KX} {ρ : List Addr} {env : Env} {h : PH} {σ : L2.St} {H : Hp} (r : Rel K ρ env h σ H) : Ext K ρ H h ρ H := Ext.refl r.heap r.wf

/-! ### new cells, written cells, cells dropped -/
section
variable {K : KX} {ρ : List Addr} {H : Hp} {h : PH}
theorem CellIs.mono {ρ' : List Addr} {H' : Hp} {a : Addr} {c : Cell} (k : TupsKeep H H') (n : Nat) (p : ∀ i, i < n → ∀ a, ρ[i]? = some a → ρ'[i]? = some a) (l : c.mr ≤ n) (e : H' a = H a) (x : CellIs K ρ H a c) : CellIs K ρ' H' a c := by
  cases c with
  | lst ds =>
    obtain ⟨xs, e1, e2⟩ := x
    exact ⟨xs, e.trans e1, IsL.mono k n p ds xs l e2⟩
  | inst c fs =>
    obtain ⟨dx, vs, e1, e2⟩ := x
    exact ⟨dx, vs, e.trans e1, IsF.mono k n p fs vs l e2⟩
  | dict kvs =>
    obtain ⟨xs, e1, e2⟩ := x
    exact ⟨xs, e.trans e1, e2⟩

/-- what cells lie at: tracked, no tuple, nothing known -/
theorem CellIs.mut {a : Addr} {c : Cell} (x : CellIs K ρ H a c) : ∃ o, H a = some o ∧ (∀ xs, o ≠ .tup xs) ∧ ∀ ob u, o ≠ .frz ob u := by
  cases c with
  | lst ds => obtain ⟨ys, e, _⟩ := x; exact ⟨_, e, (fun _ z => by cases z), (fun _ _ z => by cases z)⟩
  | inst c fs => obtain ⟨dx, vs, e, _⟩ := x; exact ⟨_, e, (fun _ z => by cases z), (fun _ _ z => by cases z)⟩
  | dict kvs => obtain ⟨ys, e, _⟩ := x; exact ⟨_, e, (fun _ z => by cases z), (fun _ _ z => by cases z)⟩
theorem HRel.mut (r : HRel K ρ H h.cs) {a : Addr} (m : a ∈ ρ) : ∃ o, H a = some o ∧ (∀ xs, o ≠ .tup xs) ∧ ∀ ob u, o ≠ .frz ob u := by
  obtain ⟨n, hn, e⟩ := List.getElem_of_mem m
  have hc : n < h.cs.length := by rw [← r.len]; exact hn
  exact (r.at_ n h.cs[n] a (List.getElem?_eq_getElem hc) (by rw [List.getElem?_eq_getElem hn, e])).mut
theorem HRel.fresh (r : HRel K ρ H h.cs) {p : Addr} (np : H p = none) : p ∉ ρ := fun m => by
  obtain ⟨o, e, _⟩ := r.mut m
  rw [np] at e; cases e
theorem keep_new {p : Addr} {o : HO} (np : H p = none) : TupsKeep H (upd H p o) :=
  ⟨fun a xs e => by rw [upd_ne (ne_of_none e np)]; exact e, fun a ob u e => by rw [upd_ne (ne_of_none e np)]; exact e⟩
theorem keep_old {p : Addr} {o u : HO} (hp : H p = some u) (nt : ∀ xs, u ≠ .tup xs) (nf : ∀ ob v, u ≠ .frz ob v) : TupsKeep H (upd H p o) :=
  ⟨fun a xs e => by rw [upd_ne (fun z => by subst z; rw [hp] at e; exact nt xs (Option.some.inj e))]; exact e,
   fun a ob v e => by rw [upd_ne (fun z => by subst z; rw [hp] at e; exact nf ob v (Option.some.inj e))]; exact e⟩

/-- a new object that is no cell -/
theorem Ext.obj (r : HRel K ρ H h.cs) (w : Wf h) {p : Addr} {o : HO} (np : H p = none) : Ext K ρ H h ρ (upd H p o) := by
  have nf := r.fresh (h := h) np
  refine ⟨⟨[], by simp⟩, fun a h1 h2 => absurd h1 h2, fun a u _ e => by rw [upd_ne (ne_of_none e np)]; exact e, keep_new np, ⟨r.len, r.nd, fun n c a e1 e2 => ?_⟩, w⟩
  have hm : a ∈ ρ := List.mem_of_getElem? e2
  have ha : a ≠ p := fun z => nf (z ▸ hm)
  exact CellIs.mono (ρ := ρ) (H := H) (keep_new np) (max n h.lim) (fun i _ x hx => hx) (w.at_ n c e1) (upd_ne ha) (r.at_ n c a e1 e2)

/-- the state with one more cell -/
def PH.push (h : PH) (c : Cell) : PH := ⟨h.cs ++ [c], h.lim⟩
theorem Wf.push (w : Wf h) {c : Cell} (l : c.mr ≤ h.cs.length) : Wf (h.push c) := by
  refine ⟨by have := w.le; show h.lim ≤ (h.cs ++ [c]).length; rw [List.length_append]; omega, fun n d e => ?_⟩
  have e : (h.cs ++ [c])[n]? = some d := e
  by_cases hn : n < h.cs.length
  · rw [List.getElem?_append_left hn] at e
    exact w.at_ n d e
  · rw [List.getElem?_append_right (by omega)] at e
    have hz : n - h.cs.length = 0 := by
      rcases Nat.eq_zero_or_pos (n - h.cs.length) with z | z
      · exact z
      · rw [List.getElem?_eq_none (by simp; omega)] at e; cases e
    rw [hz] at e
    have e' : c = d := by simpa using e
    subst e'
    show c.mr ≤ max n h.lim
    omega
/-- a new cell at a new address p -/
theorem Ext.push (r : HRel K ρ H h.cs) (w : Wf h) {p : Addr} {o : HO} {c : Cell} (np : H p = none) (l : c.mr ≤ h.cs.length)
    (ci : ∀ H', H' p = some o → TupsKeep H H' → CellIs K (ρ ++ [p]) H' p c) : Ext K ρ H (h.push c) (ρ ++ [p]) (upd H p o) := by
  have nf := r.fresh (h := h) np
  refine ⟨⟨[p], rfl⟩, fun a h1 h2 => ?_, fun a u _ e => by rw [upd_ne (ne_of_none e np)]; exact e, keep_new np, ⟨?_, ?_, fun n d a e1 e2 => ?_⟩, w.push l⟩
  · rcases List.mem_append.mp h1 with z | z
    · exact absurd z h2
    · have : a = p := by simpa using z
      rw [this]; exact np
  · show (ρ ++ [p]).length = (h.cs ++ [c]).length
    rw [List.length_append, List.length_append, r.len]; rfl
  · refine List.nodup_append.mpr ⟨r.nd, by simp, fun a ha b hb e => ?_⟩
    have : b = p := by simpa using hb
    subst this
    exact nf (e ▸ ha)
  · have e1 : (h.cs ++ [c])[n]? = some d := e1
    by_cases hn : n < h.cs.length
    · rw [List.getElem?_append_left hn] at e1
      rw [List.getElem?_append_left (by rw [r.len]; exact hn)] at e2
      have hm : a ∈ ρ := List.mem_of_getElem? e2
      have ha : a ≠ p := fun z => nf (z ▸ hm)
      refine CellIs.mono (ρ := ρ) (H := H) (keep_new np) (max n h.lim) (fun i _ x hx => ?_) (w.at_ n d e1) (upd_ne ha) (r.at_ n d a e1 e2)
      have : i < ρ.length := (List.getElem?_eq_some_iff.mp hx).1
      rw [List.getElem?_append_left this]; exact hx
    · rw [List.getElem?_append_right (by omega)] at e1
      have hz : n = h.cs.length := by
        rcases Nat.eq_zero_or_pos (n - h.cs.length) with z | z
        · omega
        · rw [List.getElem?_eq_none (by simp; omega)] at e1; cases e1
      subst hz
      rw [← r.len, List.getElem?_append_right (Nat.le_refl _), Nat.sub_self] at e2
      rw [Nat.sub_self] at e1
      have ea : p = a := by simpa using e2
      have ec : c = d := by simpa using e1
      subst ea; subst ec
      exact ci _ upd_same (keep_new np)

/-- the state with a cell written -/
def PH.put (h : PH) (n : Nat) (c : Cell) : PH := ⟨h.cs.set n c, if c.mr ≤ n then h.lim else max h.lim c.mr⟩
theorem Wf.put (w : Wf h) {n : Nat} {c : Cell} (l : c.mr ≤ h.cs.length) : Wf (h.put n c) := by
  refine ⟨?_, fun m d e => ?_⟩
  · show (if c.mr ≤ n then h.lim else max h.lim c.mr) ≤ (h.cs.set n c).length
    rw [List.length_set]
    have := w.le
    split <;> omega
  · have e : (h.cs.set n c)[m]? = some d := e
    show d.mr ≤ max m (if c.mr ≤ n then h.lim else max h.lim c.mr)
    by_cases hm : n = m
    · subst hm
      by_cases hn : n < h.cs.length
      · rw [List.getElem?_set_self hn] at e
        have : c = d := Option.some.inj e
        subst this
        split <;> omega
      · rw [List.getElem?_eq_none (by rw [List.length_set]; omega)] at e; cases e
    · rw [List.getElem?_set_ne hm] at e
      have := w.at_ m d e
      split <;> omega
theorem Ext.put (r : HRel K ρ H h.cs) (w : Wf h) {n : Nat} {p : Addr} {o : HO} {c : Cell} (hp : ρ[n]? = some p) (l : c.mr ≤ h.cs.length)
    (ci : ∀ H', H' p = some o → TupsKeep H H' → CellIs K ρ H' p c) : Ext K ρ H (h.put n c) ρ (upd H p o) := by
  have hm : p ∈ ρ := List.mem_of_getElem? hp
  obtain ⟨u, hu, nt, nf⟩ := r.mut hm
  have k : TupsKeep H (upd H p o) := keep_old hu nt nf
  refine ⟨⟨[], by simp⟩, fun a h1 h2 => absurd h1 h2, fun a v na e => by rw [upd_ne (fun z : a = p => na (by rw [z]; exact hm))]; exact e, k, ⟨?_, r.nd, fun m d a e1 e2 => ?_⟩, w.put l⟩
  · show ρ.length = (h.cs.set n c).length
    rw [List.length_set, r.len]
  · have e1 : (h.cs.set n c)[m]? = some d := e1
    have hn : n < h.cs.length := by rw [← r.len]; exact (List.getElem?_eq_some_iff.mp hp).1
    by_cases hmn : n = m
    · subst hmn
      rw [List.getElem?_set_self hn] at e1
      have ec : c = d := Option.some.inj e1
      rw [hp] at e2
      have ea : p = a := Option.some.inj e2
      subst ec; subst ea
      exact ci _ upd_same k
    · rw [List.getElem?_set_ne hmn] at e1
      have ha : a ≠ p := fun z => by
        subst z
        obtain ⟨h1, g1⟩ := List.getElem?_eq_some_iff.mp hp
        obtain ⟨h2, g2⟩ := List.getElem?_eq_some_iff.mp e2
        exact hmn ((List.getElem_inj r.nd).mp (g1.trans g2.symm))
      exact CellIs.mono (ρ := ρ) (H := H) k (max m h.lim) (fun i _ x hx => hx) (w.at_ m d e1) (upd_ne ha) (r.at_ m d a e1 e2)

/-- the state without its last cells -/
def PH.cut (h : PH) (n : Nat) : PH := ⟨h.cs.take n, h.lim⟩
theorem Ext.cut {ρ1 : List Addr} {H1 : Hp} {h1 : PH} (x : Ext K ρ H h1 ρ1 H1) {n : Nat} (l : ρ.length ≤ n) (hl : h1.lim ≤ n) : Ext K ρ H (h1.cut n) (ρ1.take n) H1 := by
  obtain ⟨m, e⟩ := x.pre
  refine ⟨⟨m.take (n - ρ.length), ?_⟩, fun a h1 h2 => x.fresh a (List.mem_of_mem_take h1) h2, x.frame, x.kept, ⟨?_, x.rel.nd.sublist (List.take_sublist _ _), fun i c a e1 e2 => ?_⟩, ⟨?_, fun i c e1 => ?_⟩⟩
  · rw [e, List.take_append, List.take_of_length_le l]
  · show (ρ1.take n).length = (h1.cs.take n).length
    rw [List.length_take, List.length_take, x.rel.len]
  · have e1 : (h1.cs.take n)[i]? = some c := e1
    have hi : i < n := by
      have := (List.getElem?_eq_some_iff.mp e1).1
      rw [List.length_take] at this; omega
    rw [List.getElem?_take_of_lt hi] at e1 e2
    refine CellIs.mono (TupsKeep.refl _) (max i h1.lim) (fun j hj b hb => ?_) (x.wf.at_ i c e1) rfl (x.rel.at_ i c a e1 e2)
    rw [List.getElem?_take_of_lt (by omega)]; exact hb
  · show h1.lim ≤ (h1.cs.take n).length
    have := x.wf.le
    rw [List.length_take]; omega
  · have e1 : (h1.cs.take n)[i]? = some c := e1
    have hi : i < n := by
      have := (List.getElem?_eq_some_iff.mp e1).1
      rw [List.length_take] at this; omega
    rw [List.getElem?_take_of_lt hi] at e1
    exact x.wf.at_ i c e1
theorem Is.cut {n : Nat} {d : D} {v : V} (l : d.mr ≤ n) (x : Is K ρ H d v) : Is K (ρ.take n) H d v :=
  Is.mono (TupsKeep.refl _) n (fun i hi a ha => by rw [List.getElem?_take_of_lt hi]; exact ha) d v l x
end
end Dy

/-! What code computes, without a heap of objects: the combinators. -/
namespace Dy
open PySem PySem.Spec PyProof.Rows L2

inductive Res (α : Type) where
  | ok (v : α) (h : PH) | exc (c : Str) (h : PH) | stuck
def Res.bind {α β : Type} (r : Res α) (f : α → PH → Res β) : Res β := match r with
  | .ok v h => f v h
  | .exc c h => .exc c h
  | .stuck => .stuck
abbrev EM := Env → PH → Res D
abbrev AM := Env → PH → Res (List D)
abbrev TM := Env → PH → Res Bool

inductive Out where
  | nxt (e : Env) (h : PH) | ret (d : D) (h : PH) | brk (e : Env) (h : PH) | cnt (e : Env) (h : PH) | exc (c : Str) (e : Env) (h : PH) | stuck
abbrev SM := Env → PH → Out

/-- what is wanted of an exception; what an except suite holds -/
structure WJ where
  w : WX
  hx : Option (Nat × Addr)
abbrev kx (X : Cx) (W : WJ) : KX := ⟨X.K, W.hx⟩
/-! ### what is wanted of a result, beyond (ρ, H) -/
def RD (K : KX) : List Addr → Hp → Nat → D → V → Prop := fun ρ H n d v => Is K ρ H d v ∧ d.mr ≤ n
def RL (K : KX) : List Addr → Hp → Nat → List D → List V → Prop := fun ρ H n ds vs => IsL K ρ H ds vs ∧ mrL ds ≤ n
def RB : List Addr → Hp → Nat → Bool → Bool → Prop := fun _ _ _ a b => a = b
section
variable (K : KX) (W : WJ)
def PostG {α β : Type} (R : List Addr → Hp → Nat → α → β → Prop) (σ : L2.St) (Q : β → Hp → Prop) (ρ : List Addr) (H : Hp) : Res α → Prop
  | .ok a h' => ∀ ρ' b H', Ext K ρ H h' ρ' H' → R ρ' H' h'.cs.length a b → Q b H'
  | .exc c h' => ∀ ρ' H', Ext K ρ H h' ρ' H' → W.w (.ref (He.ga K c)) none σ H'
  | .stuck => False
def tG {α β : Type} (R : List Addr → Hp → Nat → α → β → Prop) (m : Env → PH → Res α) : L2.St → Hp → (β → Hp → Prop) → Prop := fun σ H Q =>
  ∃ ρ env h, Rel K ρ env h σ H ∧ PostG K W R σ Q ρ H (m env h)
abbrev tE (m : EM) : TE := tG K W (RD K) m
abbrev tA (m : AM) : TA := tG K W (RL K) m
abbrev tT (m : TM) : TT := tG K W RB m

def PostS (D : Ends) (ρ : List Addr) (H : Hp) : Out → Prop
  | .nxt e h => ∀ ρ' σ' H', Ext K ρ H h ρ' H' → EnvIs K ρ' H' e σ' → EnvWf e h.cs.length → D.nx σ' H'
  | .brk e h => ∀ ρ' σ' H', Ext K ρ H h ρ' H' → EnvIs K ρ' H' e σ' → EnvWf e h.cs.length → D.bk σ' H'
  | .cnt e h => ∀ ρ' σ' H', Ext K ρ H h ρ' H' → EnvIs K ρ' H' e σ' → EnvWf e h.cs.length → D.ct σ' H'
  | .ret d h => ∀ ρ' v H', Ext K ρ H h ρ' H' → RD K ρ' H' h.cs.length d v → D.rt v H'
  | .exc c e h => ∀ ρ' σ' H', Ext K ρ H h ρ' H' → EnvIs K ρ' H' e σ' → EnvWf e h.cs.length → W.w (.ref (He.ga K c)) none σ' H'
  | .stuck => False
def tS (m : SM) : TS := fun D σ H => ∃ ρ env h, Rel K ρ env h σ H ∧ PostS K W D ρ H (m env h)
end
section
variable {K : KX} {W : WJ} {α β γ δ : Type} {R : List Addr → Hp → Nat → α → β → Prop} {R' : List Addr → Hp → Nat → γ → δ → Prop} {σ : L2.St} {ρ ρ1 : List Addr} {H H1 : Hp} {h h1 : PH} {env : Env}
theorem PostG.shift {Q : β → Hp → Prop} {r : Res α} (x : Ext K ρ H h1 ρ1 H1) (p : PostG K W R σ Q ρ H r) : PostG K W R σ Q ρ1 H1 r := by
  cases r with
  | ok a h2 => exact fun ρ2 b H2 y rb => p ρ2 b H2 (x.trans y) rb
  | exc c h2 => exact fun ρ2 H2 y => p ρ2 H2 (x.trans y)
  | stuck => exact p
theorem PostS.shift {D : Ends} {r : Out} (x : Ext K ρ H h1 ρ1 H1) (p : PostS K W D ρ H r) : PostS K W D ρ1 H1 r := by
  cases r with
  | nxt e h2 => exact fun ρ2 b H2 y z w => p ρ2 b H2 (x.trans y) z w
  | brk e h2 => exact fun ρ2 b H2 y z w => p ρ2 b H2 (x.trans y) z w
  | cnt e h2 => exact fun ρ2 b H2 y z w => p ρ2 b H2 (x.trans y) z w
  | ret d h2 => exact fun ρ2 b H2 y rb => p ρ2 b H2 (x.trans y) rb
  | exc c e h2 => exact fun ρ2 b H2 y z w => p ρ2 b H2 (x.trans y) z w
  | stuck => exact p
/-- the first of two steps -/
theorem PostG.bind {m : Env → PH → Res α} {k : α → PH → Res γ} {Q : δ → Hp → Prop} (r : Rel K ρ env h σ H) (p : PostG K W R' σ Q ρ H ((m env h).bind k)) :
    tG K W R m σ H fun b H1 => ∃ ρ1 h1 a, Ext K ρ H h1 ρ1 H1 ∧ R ρ1 H1 h1.cs.length a b ∧ PostG K W R' σ Q ρ1 H1 (k a h1) := by
  refine ⟨ρ, env, h, r, ?_⟩
  cases e : m env h with
  | ok a h1 =>
    rw [e] at p
    exact fun ρ' b H' x rb => ⟨ρ', h1, a, x, rb, p.shift x⟩
  | exc c h1 =>
    rw [e] at p
    exact p
  | stuck =>
    rw [e] at p
    exact p
end
/-- the first of a statement's steps -/
def Res.bindS {α : Type} (r : Res α) (e : Env) (f : α → PH → Out) : Out := match r with
  | .ok v h => f v h
  | .exc c h => .exc c e h
  | .stuck => .stuck
section
variable {K : KX} {W : WJ} {α β : Type} {R : List Addr → Hp → Nat → α → β → Prop} {σ : L2.St} {ρ : List Addr} {H : Hp} {h : PH} {env : Env}
theorem PostS.bind {m : Env → PH → Res α} {k : α → PH → Out} {D : Ends} (r : Rel K ρ env h σ H) (p : PostS K W D ρ H ((m env h).bindS env k)) :
    tG K W R m σ H fun b H1 => ∃ ρ1 h1 a, Ext K ρ H h1 ρ1 H1 ∧ R ρ1 H1 h1.cs.length a b ∧ PostS K W D ρ1 H1 (k a h1) := by
  refine ⟨ρ, env, h, r, ?_⟩
  cases e : m env h with
  | ok a h1 =>
    rw [e] at p
    exact fun ρ' b H' x rb => ⟨ρ', h1, a, x, rb, p.shift x⟩
  | exc c h1 =>
    rw [e] at p
    exact fun ρ' H' x => p ρ' σ H' x (x.envIs (by rw [r.len]; exact r.ewf) r.eis) (r.ewf.mono (by have := x.le; rw [r.len] at this; exact this))
  | stuck =>
    rw [e] at p
    exact p
end

/-! ### judgements -/
abbrev DE (X : Cx) (W : WJ) (e : Expr) (m : EM) : Prop := PE X e (tE (kx X W) W m)
abbrev DA (X : Cx) (W : WJ) (es : List Expr) (m : AM) : Prop := PA X es (tA (kx X W) W m)
abbrev DT (X : Cx) (W : WJ) (e : Expr) (m : TM) : Prop := PT X e (tT (kx X W) W m)
abbrev DS (X : Cx) (W : WJ) (st : Stmt) (m : SM) : Prop := PS X st (tS (kx X W) W m)
abbrev DSs (X : Cx) (W : WJ) (st : List Stmt) (m : SM) : Prop := PSs X st (tS (kx X W) W m)
section
variable {X : Cx} {W : WJ}
theorem pe_imp {e : Expr} {t t' : TE} (h : PE X e t) (k : ∀ σ H Q, t' σ H Q → t σ H Q) : PE X e t' := ⟨fun pins s σ H Q I q => h.run pins s σ H Q I (k σ H Q q)⟩
theorem pt_imp {e : Expr} {t t' : TT} (h : PT X e t) (k : ∀ σ H Q, t' σ H Q → t σ H Q) : PT X e t' := ⟨fun pins s σ H Q I q => h.run pins s σ H Q I (k σ H Q q)⟩
theorem pw_imp {e : Expr} {t t' : TT} (h : PW X e t) (k : ∀ σ H Q, t' σ H Q → t σ H Q) : PW X e t' := ⟨fun wh pins s σ H Q I q => h.run wh pins s σ H Q I (k σ H Q q)⟩
theorem pa_imp {e : List Expr} {t t' : TA} (h : PA X e t) (k : ∀ σ H Q, t' σ H Q → t σ H Q) : PA X e t' := ⟨fun pos pins s σ H Q I q => h.run pos pins s σ H Q I (k σ H Q q)⟩
theorem ps_imp {e : Stmt} {t t' : TS} (h : PS X e t) (k : ∀ D σ H, t' D σ H → t D σ H) : PS X e t' := ⟨fun pins s σ H D I q => h.run pins s σ H D I (k D σ H q)⟩
theorem pss_imp {e : List Stmt} {t t' : TS} (h : PSs X e t) (k : ∀ D σ H, t' D σ H → t D σ H) : PSs X e t' := ⟨fun pins s σ H D I q => h.run pins s σ H D I (k D σ H q)⟩
theorem pe_or' {e : Expr} {t t' : TE} (h : PE X e t) (h' : PE X e t') : PE X e (fun σ H Q => t σ H Q ∨ t' σ H Q) := ⟨fun pins s σ H Q I q => q.elim (h.run pins s σ H Q I) (h'.run pins s σ H Q I)⟩
def stuckE : EM := fun _ _ => .stuck
def stuckA : AM := fun _ _ => .stuck
def stuckT : TM := fun _ _ => .stuck
def stuckS : SM := fun _ _ => .stuck
theorem de_stuck {e : Expr} : DE X W e stuckE := ⟨fun _ _ _ _ _ _ ⟨_, _, _, _, p⟩ => False.elim p⟩
theorem da_stuck {e : List Expr} : DA X W e stuckA := ⟨fun _ _ _ _ _ _ _ ⟨_, _, _, _, p⟩ => False.elim p⟩
theorem dt_stuck {e : Expr} : DT X W e stuckT := ⟨fun _ _ _ _ _ _ ⟨_, _, _, _, p⟩ => False.elim p⟩
theorem ds_stuck {e : Stmt} : DS X W e stuckS := ⟨fun _ _ _ _ _ _ ⟨_, _, _, _, p⟩ => False.elim p⟩
theorem dss_stuck {e : List Stmt} : DSs X W e stuckS := ⟨fun _ _ _ _ _ _ ⟨_, _, _, _, p⟩ => False.elim p⟩

/-! ### constants, names -/
def cE (d : D) : EM := fun _ h => .ok d h
def vE (i : Nat) : EM := fun e h => match e[i]? with
  | some (some d) => .ok d h
  | _ => .stuck
theorem de_const {e : Expr} {d : D} {v : V} (h : PE X e (tC v)) (q : ∀ ρ H, Is (kx X W) ρ H d v) (z : d.mr = 0) : DE X W e (cE d) :=
  pe_imp h fun σ H Q ⟨ρ, env, h, r, p⟩ => p ρ v H r.refl ⟨q ρ H, by rw [z]; exact Nat.zero_le _⟩
theorem de_var {e : Expr} {i : Nat} (h : PE X e (tVar i)) : DE X W e (vE i) := pe_imp h fun σ H Q ⟨ρ, env, h, r, p⟩ => by
  unfold vE at p
  cases e : env[i]? with
  | none => rw [e] at p; exact False.elim p
  | some o =>
    rw [e] at p
    cases o with
    | none => exact False.elim p
    | some d =>
      obtain ⟨v, e1, e2⟩ := r.eis.at_ i d e
      exact ⟨v, e1, p ρ v H r.refl ⟨e2, r.ewf i d e⟩⟩

/-! ### operations upon values -/
def u1E (f : D → PH → Res D) (a : EM) : EM := fun e h => (a e h).bind f
def b2E (f : D → D → PH → Res D) (a b : EM) : EM := fun e h => (a e h).bind fun x h1 => (b e h1).bind fun y h2 => f x y h2
/-- the state at an operation -/
structure At (K : KX) (ρ : List Addr) (h : PH) (H : Hp) : Prop where
  heap : HRel K ρ H h.cs
  wf : Wf h
theorem Ext.at {K : KX} {ρ ρ1 : List Addr} {H H1 : Hp} {h1 : PH} (x : Ext K ρ H h1 ρ1 H1) : At K ρ1 h1 H1 := ⟨x.rel, x.wf⟩
theorem At.refl {K : KX} {ρ : List Addr} {H : Hp} {h : PH} (x : At K ρ h H) : Ext K ρ H h ρ H := Ext.refl x.heap x.wf
theorem RD.ext {K : KX} {ρ ρ1 : List Addr} {H H1 : Hp} {h h1 : PH} (x : Ext K ρ H h1 ρ1 H1) (hl : ρ.length = h.cs.length) {d : D} {v : V} (r : RD K ρ H h.cs.length d v) : RD K ρ1 H1 h1.cs.length d v :=
  ⟨x.is (by rw [hl]; exact r.2) r.1, Nat.le_trans r.2 (by rw [← hl]; exact x.le)⟩
theorem RL.ext {K : KX} {ρ ρ1 : List Addr} {H H1 : Hp} {h h1 : PH} (x : Ext K ρ H h1 ρ1 H1) (hl : ρ.length = h.cs.length) {d : List D} {v : List V} (r : RL K ρ H h.cs.length d v) : RL K ρ1 H1 h1.cs.length d v :=
  ⟨x.isL (by rw [hl]; exact r.2) r.1, Nat.le_trans r.2 (by rw [← hl]; exact x.le)⟩
/-- f upon values does what r asks -/
def Op1 (K : KX) (W : WJ) (f : D → PH → Res D) (r : V → Hp → VK → Prop) : Prop :=
  ∀ (σ : L2.St) (ρ : List Addr) (h : PH) (H : Hp) (d : D) (x : V) (Q : VK), At K ρ h H → RD K ρ H h.cs.length d x → PostG K W (RD K) σ Q ρ H (f d h) → r x H Q
def Op2 (K : KX) (W : WJ) (f : D → D → PH → Res D) (r : R2) : Prop :=
  ∀ (σ : L2.St) (ρ : List Addr) (h : PH) (H : Hp) (d e : D) (x y : V) (Q : VK), At K ρ h H → RD K ρ H h.cs.length d x → RD K ρ H h.cs.length e y → PostG K W (RD K) σ Q ρ H (f d e h) → r x y H Q
def OpN (K : KX) (W : WJ) (f : List D → PH → Res D) (r : List V → Hp → VK → Prop) : Prop :=
  ∀ (σ : L2.St) (ρ : List Addr) (h : PH) (H : Hp) (ds : List D) (xs : List V) (Q : VK), At K ρ h H → RL K ρ H h.cs.length ds xs → PostG K W (RD K) σ Q ρ H (f ds h) → r xs H Q
def OpM (K : KX) (W : WJ) (f : D → List D → PH → Res D) (r : V → List V → Hp → VK → Prop) : Prop :=
  ∀ (σ : L2.St) (ρ : List Addr) (h : PH) (H : Hp) (d : D) (x : V) (ds : List D) (xs : List V) (Q : VK), At K ρ h H → RD K ρ H h.cs.length d x → RL K ρ H h.cs.length ds xs → PostG K W (RD K) σ Q ρ H (f d ds h) → r x xs H Q

theorem tG_mono {K : KX} {α β : Type} {R : List Addr → Hp → Nat → α → β → Prop} {m : Env → PH → Res α} {σ : L2.St} {H : Hp} {Q Q' : β → Hp → Prop} (t : tG K W R m σ H Q) (k : ∀ b H1, Q b H1 → Q' b H1) : tG K W R m σ H Q' := by
  obtain ⟨ρ, env, h, r, p⟩ := t
  refine ⟨ρ, env, h, r, ?_⟩
  cases e : m env h with
  | stuck => rw [e] at p; exact p
  | exc c h1 => rw [e] at p; exact p
  | ok a h1 => rw [e] at p; exact fun ρ1 b H1 x1 rb => k b H1 (p ρ1 b H1 x1 rb)
theorem t_b2 {f : D → D → PH → Res D} {r : R2} {K : KX} (hf : Op2 K W f r) {ma mb : EM} {σ : L2.St} {H : Hp} {Q : VK} (t : tE K W (b2E f ma mb) σ H Q) : tOp r (tE K W ma) (tE K W mb) σ H Q := by
  obtain ⟨ρ, env, h, rl, p⟩ := t
  refine tG_mono (PostG.bind (R := RD K) rl p) fun b H1 ⟨ρ1, h1, a1, x1, ra1, p1⟩ => ?_
  refine tG_mono (PostG.bind (R := RD K) (rl.ext x1) p1) fun b2 H2 ⟨ρ2, h2, a2, x2, ra2, p2⟩ => ?_
  exact hf σ ρ2 h2 H2 a1 a2 b b2 Q x2.at (ra1.ext x2 (rl.ext x1).len) ra2 p2
theorem t_u1 {f : D → PH → Res D} {r : V → Hp → VK → Prop} {K : KX} (hf : Op1 K W f r) {ma : EM} {σ : L2.St} {H : Hp} {Q : VK} (t : tE K W (u1E f ma) σ H Q) : tE K W ma σ H fun x H1 => r x H1 Q := by
  obtain ⟨ρ, env, h, rl, p⟩ := t
  exact tG_mono (PostG.bind (R := RD K) rl p) fun b H1 ⟨ρ1, h1, a1, x1, ra1, p1⟩ => hf σ ρ1 h1 H1 a1 b Q x1.at ra1 p1
def nA (f : List D → PH → Res D) (a : AM) : EM := fun e h => (a e h).bind f
theorem t_nA {f : List D → PH → Res D} {r : List V → Hp → VK → Prop} {K : KX} (hf : OpN K W f r) {ma : AM} {σ : L2.St} {H : Hp} {Q : VK} (t : tE K W (nA f ma) σ H Q) : tA K W ma σ H fun xs H1 => r xs H1 Q := by
  obtain ⟨ρ, env, h, rl, p⟩ := t
  exact tG_mono (PostG.bind (R := RL K) rl p) fun b H1 ⟨ρ1, h1, a1, x1, ra1, p1⟩ => hf σ ρ1 h1 H1 a1 b Q x1.at ra1 p1
/-- a receiver, then arguments -/
def mA (f : D → List D → PH → Res D) (o : EM) (a : AM) : EM := fun e h => (o e h).bind fun x h1 => (a e h1).bind fun xs h2 => f x xs h2
theorem t_mA {f : D → List D → PH → Res D} {r : V → List V → Hp → VK → Prop} {K : KX} (hf : OpM K W f r) {mo : EM} {ma : AM} {σ : L2.St} {H : Hp} {Q : VK} (t : tE K W (mA f mo ma) σ H Q) :
    tE K W mo σ H fun x H1 => tA K W ma σ H1 fun xs H2 => r x xs H2 Q := by
  obtain ⟨ρ, env, h, rl, p⟩ := t
  refine tG_mono (PostG.bind (R := RD K) rl p) fun b H1 ⟨ρ1, h1, a1, x1, ra1, p1⟩ => ?_
  refine tG_mono (PostG.bind (R := RL K) (rl.ext x1) p1) fun b2 H2 ⟨ρ2, h2, a2, x2, ra2, p2⟩ => ?_
  exact hf σ ρ2 h2 H2 a1 b a2 b2 Q x2.at (ra1.ext x2 (rl.ext x1).len) ra2 p2

/-! ### argument lists, displays -/
def nilA : AM := fun _ h => .ok [] h
def consA (a : EM) (r : AM) : AM := fun e h => (a e h).bind fun x h1 => (r e h1).bind fun xs h2 => .ok (x :: xs) h2
def isStar : Expr → Bool
  | .Starred _ _ => true
  | _ => false
theorem star_no {e : Expr} (h : isStar e = false) (es : List Expr) (env : PySem.Env) : starEach (e :: es) env = (false, eval e env) :: starEach es env := by
  cases e <;> first | rfl | cases h
theorem da_nil : DA X W [] nilA := pa_imp pa_nil fun σ H Q ⟨ρ, env, h, r, p⟩ => p ρ [] H r.refl ⟨by unfold IsL; rfl, Nat.zero_le _⟩
theorem da_cons {e : Expr} {es : List Expr} {ma : EM} {mr : AM} (ns : isStar e = false) (ha : DE X W e ma) (hr : DA X W es mr) : DA X W (e :: es) (consA ma mr) :=
  pa_imp (pa_cons ha hr (star_no ns es _)) fun σ H Q ⟨ρ, env, h, rl, p⟩ => by
    refine tG_mono (PostG.bind (R := RD (kx X W)) rl p) fun b H1 ⟨ρ1, h1, a1, x1, ra1, p1⟩ => ?_
    refine tG_mono (PostG.bind (R := RL (kx X W)) (rl.ext x1) p1) fun b2 H2 ⟨ρ2, h2, a2, x2, ra2, p2⟩ => ?_
    have ra := ra1.ext x2 (rl.ext x1).len
    refine p2 ρ2 (b :: b2) H2 x2.at.refl ⟨?_, ?_⟩
    · unfold IsL; exact ⟨b, b2, rfl, ra.1, ra2.1⟩
    · unfold mrL; have := ra.2; have := ra2.2; omega
def tupF (ds : List D) (h : PH) : Res D := if ds.length ≤ 16777216 then .ok (.tup ds) h else .stuck
def lstF (ds : List D) (h : PH) : Res D := if ds.length ≤ 16777216 then .ok (.ref h.cs.length) (h.push (.lst ds)) else .stuck
theorem opn_tup : OpN (kx X W) W tupF (fun xs H Q => xs.length ≤ sizeLine ∧ ∀ p, H p = none → Q (.ref p) (upd H p (.tup xs))) := by
  intro σ ρ h H ds xs Q at_ rl p
  unfold tupF at p
  split at p
  · rename_i hl
    refine ⟨by rw [rl.1.length, sizeLine_eq]; exact hl, fun q hq => ?_⟩
    have x := Ext.obj (o := .tup xs) at_.heap at_.wf hq
    refine p ρ (.ref q) _ x ⟨?_, ?_⟩
    · unfold Is
      exact ⟨q, xs, rfl, SqT.of upd_same, x.isL (by rw [at_.heap.len]; exact rl.2) rl.1⟩
    · unfold D.mr; exact rl.2
  · exact p.elim
theorem opn_lst : OpN (kx X W) W lstF (fun xs H Q => xs.length ≤ sizeLine ∧ ∀ p, H p = none → Q (.ref p) (upd H p (.lst xs))) := by
  intro σ ρ h H ds xs Q at_ rl p
  unfold lstF at p
  split at p
  · rename_i hl
    refine ⟨by rw [rl.1.length, sizeLine_eq]; exact hl, fun q hq => ?_⟩
    have x : Ext (kx X W) ρ H (h.push (.lst ds)) (ρ ++ [q]) (upd H q (.lst xs)) := Ext.push at_.heap at_.wf hq rl.2 fun H' e k =>
      ⟨xs, e, IsL.mono k ρ.length (fun i hi a ha => by rw [List.getElem?_append_left hi]; exact ha) ds xs (by rw [at_.heap.len]; exact rl.2) rl.1⟩
    refine p (ρ ++ [q]) (.ref q) _ x ⟨?_, ?_⟩
    · unfold Is
      exact ⟨q, by rw [← at_.heap.len, List.getElem?_append_right (Nat.le_refl _), Nat.sub_self]; rfl, rfl⟩
    · unfold D.mr
      show _ ≤ (h.cs ++ [Cell.lst ds]).length
      rw [List.length_append]; exact Nat.le_refl _
  · exact p.elim
theorem de_tup {es : List Expr} {k : Nat} {pos : Pos} {ma : AM} (ha : DA X W es ma) : DE X W (.Tuple es k pos) (nA tupF ma) := pe_imp (pe_tup ha) fun σ H Q t => t_nA opn_tup t
theorem de_lst {es : List Expr} {pos : Pos} {ma : AM} (ha : DA X W es ma) : DE X W (.List es pos) (nA lstF ma) := pe_imp (pe_lst ha) fun σ H Q t => t_nA opn_lst t

/-! ### operators -/
theorem de_bin {a b : Expr} {op : Operator} {pos : Pos} {ma mb : EM} {f : D → D → PH → Res D} {r : R2} (ho : OpR X (binaryOp op) r) (hf : Op2 (kx X W) W f r) (ha : DE X W a ma) (hb : DE X W b mb) : DE X W (.BinOp a op b pos) (b2E f ma mb) :=
  pe_imp (pe_op ho ha hb) fun σ H Q t => t_b2 hf t
theorem de_un {a : Expr} {op : UnaryOp} {pos : Pos} {ma : EM} {f : D → PH → Res D} {r : V → Hp → VK → Prop} (ho : UnR X (unaryOp op) r) (hf : Op1 (kx X W) W f r) (ha : DE X W a ma) : DE X W (.UnaryOp op a pos) (u1E f ma) :=
  pe_imp (pe_un ho ha) fun σ H Q t => t_u1 hf t
theorem de_cmp {a b : Expr} {op : CmpOp} {pos : Pos} {ma mb : EM} {f : D → D → PH → Res D} {r : R2} (ho : OpR X (compareOp op) r) (hf : Op2 (kx X W) W f r) (ha : DE X W a ma) (hb : DE X W b mb) (hm : behindInMarks op b = false) : DE X W (.Compare a [op] [b] pos) (b2E f ma mb) :=
  pe_imp (pe_cmpR ho ha hb hm) fun σ H Q t => t_b2 hf t
end
end Dy

/-! Operators, comparisons, tests. -/
namespace Dy
open PySem PySem.Spec PyProof.Rows L2
section
variable {K : KX} {W : WJ}
/-! ### how values look -/
theorem Is.int {ρ : List Addr} {H : Hp} {i : Int} {v : V} (h : Is K ρ H (.int i) v) : v = .int i := by unfold Is at h; exact h
theorem Is.str {ρ : List Addr} {H : Hp} {i : Str} {v : V} (h : Is K ρ H (.str i) v) : v = .str i := by unfold Is at h; exact h
theorem Is.bl {ρ : List Addr} {H : Hp} {i : Bool} {v : V} (h : Is K ρ H (.bl i) v) : v = .bl i := by unfold Is at h; exact h
theorem Is.non {ρ : List Addr} {H : Hp} {v : V} (h : Is K ρ H .non v) : v = .non := by unfold Is at h; exact h
theorem Is.tup {ρ : List Addr} {H : Hp} {ds : List D} {v : V} (h : Is K ρ H (.tup ds) v) : ∃ a xs, v = .ref a ∧ SqT K H a xs ∧ IsL K ρ H ds xs := by unfold Is at h; exact h
theorem Is.frl {ρ : List Addr} {H : Hp} {ds : List D} {v : V} (h : Is K ρ H (.frl ds) v) : ∃ a xs, v = .ref a ∧ FrzL K H a xs ∧ IsL K ρ H ds xs := by unfold Is at h; exact h
theorem Is.ref {ρ : List Addr} {H : Hp} {n : Nat} {v : V} (h : Is K ρ H (.ref n) v) : ∃ a, ρ[n]? = some a ∧ v = .ref a := by unfold Is at h; exact h
theorem is_int {ρ : List Addr} {H : Hp} {i : Int} {n : Nat} : RD K ρ H n (.int i) (.int i) := ⟨by unfold Is; rfl, Nat.zero_le _⟩
theorem is_str {ρ : List Addr} {H : Hp} {i : Str} {n : Nat} : RD K ρ H n (.str i) (.str i) := ⟨by unfold Is; rfl, Nat.zero_le _⟩
theorem is_bl {ρ : List Addr} {H : Hp} {i : Bool} {n : Nat} : RD K ρ H n (.bl i) (.bl i) := ⟨by unfold Is; rfl, Nat.zero_le _⟩
theorem is_non {ρ : List Addr} {H : Hp} {n : Nat} : RD K ρ H n .non .non := ⟨by unfold Is; rfl, Nat.zero_le _⟩
/-- a list's cell -/
theorem At.lst {ρ : List Addr} {h : PH} {H : Hp} (x : At K ρ h H) {n : Nat} {ds : List D} (e : h.cs[n]? = some (.lst ds)) {v : V} (i : Is K ρ H (.ref n) v) :
    ∃ a xs, v = .ref a ∧ ρ[n]? = some a ∧ H a = some (.lst xs) ∧ IsL K ρ H ds xs ∧ mrL ds ≤ h.cs.length := by
  obtain ⟨a, ha, rfl⟩ := i.ref
  obtain ⟨xs, h1, h2⟩ := x.heap.at_ n _ a e ha
  have l : mrL ds ≤ max n h.lim := x.wf.at_ n _ e
  have : n < h.cs.length := (List.getElem?_eq_some_iff.mp e).1
  have := x.wf.le
  exact ⟨a, xs, rfl, ha, h1, h2, by omega⟩
/-- a dict's cell -/
theorem At.dct {ρ : List Addr} {h : PH} {H : Hp} (x : At K ρ h H) {n : Nat} {kvs : List (D × D)} (e : h.cs[n]? = some (.dict kvs)) {v : V} (i : Is K ρ H (.ref n) v) :
    ∃ a xs, v = .ref a ∧ ρ[n]? = some a ∧ H a = some (.dK xs) ∧ kvs.map dkV = xs.map some := by
  obtain ⟨a, ha, rfl⟩ := i.ref
  obtain ⟨xs, h1, h2⟩ := x.heap.at_ n _ a e ha
  exact ⟨a, xs, rfl, ha, h1, h2⟩
theorem IsL.get {ρ : List Addr} {H : Hp} : ∀ {ds : List D} {xs : List V} {i : Nat} {d : D}, IsL K ρ H ds xs → ds[i]? = some d → ∃ v, xs[i]? = some v ∧ Is K ρ H d v
  | [], _, i, d, _, e => by simp at e
  | c :: ds, xs, 0, d, h, e => by
    unfold IsL at h
    obtain ⟨x, r, rfl, h1, _⟩ := h
    simp at e; subst e
    exact ⟨x, rfl, h1⟩
  | c :: ds, xs, i + 1, d, h, e => by
    unfold IsL at h
    obtain ⟨x, r, rfl, _, h2⟩ := h
    obtain ⟨v, e1, e2⟩ := IsL.get (i := i) (d := d) h2 (by simpa using e)
    exact ⟨v, by simpa using e1, e2⟩
theorem mrL_get : ∀ {ds : List D} {i : Nat} {d : D}, ds[i]? = some d → d.mr ≤ mrL ds
  | [], i, d, e => by simp at e
  | c :: ds, 0, d, e => by
    simp at e; subst e
    unfold mrL; omega
  | c :: ds, i + 1, d, e => by
    have := mrL_get (ds := ds) (i := i) (d := d) (by simpa using e)
    unfold mrL; omega
theorem IsL.append {ρ : List Addr} {H : Hp} : ∀ {ds es : List D} {xs ys : List V}, IsL K ρ H ds xs → IsL K ρ H es ys → IsL K ρ H (ds ++ es) (xs ++ ys)
  | [], _, _, _, h, h' => by unfold IsL at h; subst h; exact h'
  | d :: ds, es, xs, ys, h, h' => by
    unfold IsL at h
    obtain ⟨x, r, rfl, h1, h2⟩ := h
    show IsL K ρ H (d :: (ds ++ es)) (x :: (r ++ ys))
    unfold IsL
    exact ⟨x, r ++ ys, rfl, h1, IsL.append h2 h'⟩
theorem mrL_append : ∀ {ds es : List D}, mrL (ds ++ es) = max (mrL ds) (mrL es)
  | [], es => by show mrL es = max 0 (mrL es); omega
  | d :: ds, es => by
    show max d.mr (mrL (ds ++ es)) = max (max d.mr (mrL ds)) (mrL es)
    rw [mrL_append]; omega
theorem IsL.take {ρ : List Addr} {H : Hp} : ∀ {ds : List D} {xs : List V} (n : Nat), IsL K ρ H ds xs → IsL K ρ H (ds.take n) (xs.take n)
  | _, _, 0, _ => by show IsL K ρ H [] []; unfold IsL; rfl
  | [], xs, n + 1, h => by unfold IsL at h; subst h; show IsL K ρ H [] []; unfold IsL; rfl
  | d :: ds, xs, n + 1, h => by
    unfold IsL at h
    obtain ⟨x, r, rfl, h1, h2⟩ := h
    show IsL K ρ H (d :: ds.take n) (x :: r.take n)
    unfold IsL
    exact ⟨x, _, rfl, h1, IsL.take n h2⟩
theorem IsL.drop {ρ : List Addr} {H : Hp} : ∀ {ds : List D} {xs : List V} (n : Nat), IsL K ρ H ds xs → IsL K ρ H (ds.drop n) (xs.drop n)
  | _, _, 0, h => h
  | [], xs, n + 1, h => by unfold IsL at h; subst h; show IsL K ρ H [] []; unfold IsL; rfl
  | d :: ds, xs, n + 1, h => by
    unfold IsL at h
    obtain ⟨x, r, rfl, h1, h2⟩ := h
    exact IsL.drop (ds := ds) (xs := r) n h2
theorem mrL_take : ∀ {ds : List D} {n : Nat}, mrL (ds.take n) ≤ mrL ds
  | _, 0 => Nat.zero_le _
  | [], _ + 1 => Nat.zero_le _
  | d :: ds, n + 1 => by
    show max d.mr (mrL (ds.take n)) ≤ max d.mr (mrL ds)
    have := mrL_take (ds := ds) (n := n); omega
theorem mrL_drop : ∀ {ds : List D} {n : Nat}, mrL (ds.drop n) ≤ mrL ds
  | _, 0 => Nat.le_refl _
  | [], _ + 1 => Nat.zero_le _
  | d :: ds, n + 1 => by
    show mrL (ds.drop n) ≤ max d.mr (mrL ds)
    have := mrL_drop (ds := ds) (n := n); omega
theorem IsL.set {ρ : List Addr} {H : Hp} {d : D} {v : V} (q : Is K ρ H d v) : ∀ {ds : List D} {xs : List V} (i : Nat), IsL K ρ H ds xs → IsL K ρ H (ds.set i d) (xs.set i v)
  | [], xs, i, h => by unfold IsL at h; subst h; show IsL K ρ H [] []; unfold IsL; rfl
  | c :: ds, xs, 0, h => by
    unfold IsL at h
    obtain ⟨x, r, rfl, _, h2⟩ := h
    show IsL K ρ H (d :: ds) (v :: r)
    unfold IsL
    exact ⟨v, r, rfl, q, h2⟩
  | c :: ds, xs, i + 1, h => by
    unfold IsL at h
    obtain ⟨x, r, rfl, h1, h2⟩ := h
    show IsL K ρ H (c :: ds.set i d) (x :: r.set i v)
    unfold IsL
    exact ⟨x, _, rfl, h1, IsL.set q i h2⟩
theorem mrL_set {d : D} : ∀ {ds : List D} {i : Nat}, mrL (ds.set i d) ≤ max (mrL ds) d.mr
  | [], _ => Nat.zero_le _
  | c :: ds, 0 => by show max d.mr (mrL ds) ≤ max (max c.mr (mrL ds)) d.mr; omega
  | c :: ds, i + 1 => by
    show max c.mr (mrL (ds.set i d)) ≤ max (max c.mr (mrL ds)) d.mr
    have := mrL_set (d := d) (ds := ds) (i := i); omega

/-! ### int operations -/
def stepI (f : Int → Int → Option D) : D → D → PH → Res D := fun a b h => match a, b with
  | .int i, .int j => (match f i j with
    | some d => .ok d h
    | none => .stuck)
  | _, _ => .stuck
/-- an operation on ints whose answer is an int -/
theorem op2_int {f : Int → Int → Option D} {C : Int → Int → Prop} {g : Int → Int → V} (hf : ∀ i j d, f i j = some d → C i j ∧ ∀ ρ H n, RD K ρ H n d (g i j)) : Op2 K W (stepI f) (rI C g) := by
  intro σ ρ h H d e x y Q at_ rx ry p
  unfold stepI at p
  split at p
  · rename_i i j
    cases q : f i j with
    | none => rw [q] at p; exact p.elim
    | some d =>
      rw [q] at p
      obtain ⟨c, r⟩ := hf i j d q
      exact ⟨i, j, rx.1.int, ry.1.int, c, p ρ _ H at_.refl (r _ _ _)⟩
  · exact p.elim
theorem op2_int0 {f : Int → Int → Option D} {g : Int → Int → V} (hf : ∀ i j d, f i j = some d → ∀ ρ H n, RD K ρ H n d (g i j)) : Op2 K W (stepI f) (rI0 g) := by
  intro σ ρ h H d e x y Q at_ rx ry p
  obtain ⟨i, j, e1, e2, _, q⟩ := op2_int (C := fun _ _ => True) (g := g) (fun i j d q => ⟨trivial, hf i j d q⟩) σ ρ h H d e x y Q at_ rx ry p
  exact ⟨i, j, e1, e2, q⟩
theorem Op2.or {f f' : D → D → PH → Res D} {r r' : R2} {g : D → D → PH → Res D} (h1 : Op2 K W f r) (h2 : Op2 K W f' r') (hg : ∀ a b h, g a b h = f a b h ∨ g a b h = f' a b h) : Op2 K W g (fun x y H Q => r x y H Q ∨ r' x y H Q) := by
  intro σ ρ h H d e x y Q at_ rx ry p
  rcases hg d e h with q | q
  · rw [q] at p; exact .inl (h1 σ ρ h H d e x y Q at_ rx ry p)
  · rw [q] at p; exact .inr (h2 σ ρ h H d e x y Q at_ rx ry p)
def iAdd : D → D → PH → Res D := stepI fun i j => some (.int (i + j))
def subF : D → D → PH → Res D := stepI fun i j => some (.int (i - j))
def bitsOk (i j : Int) : Bool := Nat.ble (i.natAbs.log2 + j.natAbs.log2) 900000
def iMul : D → D → PH → Res D := stepI fun i j => if bitsOk i j then some (.int (i * j)) else none
def fdivF : D → D → PH → Res D := stepI fun i j => if 0 < j ∧ j.natAbs.log2 < 9000 then some (.int (i / j)) else none
def modF : D → D → PH → Res D := stepI fun i j => if 0 < j then some (.int (i % j)) else none
/-- bounds said by Nat.ble: the kernel leaves them alone under a stuck number -/
def powOk (i j : Int) : Bool := Nat.ble j.toNat 1000000 && Nat.ble i.natAbs 18446744073709551615
def shlOk (i j : Int) : Bool := Nat.ble j.toNat 1000000 && Nat.ble i.natAbs.log2 1000000
theorem powOk_iff {i j : Int} (z : 0 ≤ j) : powOk i j = true ↔ j ≤ 1000000 ∧ i.natAbs < 2 ^ 64 := by
  unfold powOk
  rw [Bool.and_eq_true, Nat.ble_eq, Nat.ble_eq]
  constructor <;> intro h <;> constructor <;> omega
theorem shlOk_iff {i j : Int} (z : 0 ≤ j) : shlOk i j = true ↔ j ≤ 1000000 ∧ i.natAbs.log2 ≤ 1000000 := by
  unfold shlOk
  rw [Bool.and_eq_true, Nat.ble_eq, Nat.ble_eq]
  constructor <;> intro h <;> constructor <;> omega
def powF : D → D → PH → Res D := stepI fun i j => if 0 ≤ j ∧ powOk i j = true then some (.int (i ^ j.toNat)) else none
def shlF : D → D → PH → Res D := stepI fun i j => if 0 ≤ j ∧ shlOk i j = true then some (.int (i * 2 ^ j.toNat)) else none
def shrF : D → D → PH → Res D := stepI fun i j => if 0 ≤ j then some (.int (i / 2 ^ j.toNat)) else none
theorem o_iadd : Op2 K W iAdd (rI0 fun i j => .int (i + j)) := op2_int0 fun i j d q _ _ _ => by cases q; exact is_int
theorem o_sub : Op2 K W subF (rI0 fun i j => .int (i - j)) := op2_int0 fun i j d q _ _ _ => by cases q; exact is_int
theorem lt_log2 (n : Nat) : n < 2 ^ (n.log2 + 1) := Nat.lt_log2_self
theorem o_imul : Op2 K W iMul (rI CMulW fun i j => .int (i * j)) := op2_int fun i j d q => by
  have q : (if bitsOk i j = true then some (D.int (i * j)) else none) = some d := q
  split at q
  · rename_i c
    cases q
    have c' : i.natAbs.log2 + j.natAbs.log2 ≤ 900000 := Nat.le_of_ble_eq_true c
    exact ⟨wide_mul (lt_log2 _) (lt_log2 _) (by omega) (by omega) (by omega), fun _ _ _ => is_int⟩
  · cases q
theorem o_fdiv : Op2 K W fdivF (rI CDivW fun i j => .int (i / j)) := op2_int fun i j d q => by
  have q : (if 0 < j ∧ j.natAbs.log2 < 9000 then some (D.int (i / j)) else none) = some d := q
  split at q
  · rename_i c
    cases q
    exact ⟨wide_div c.1 (lt_log2 _) (by omega) (by omega), fun _ _ _ => is_int⟩
  · cases q
theorem o_mod : Op2 K W modF (rI (fun _ j => 0 < j) fun i j => .int (i % j)) := op2_int fun i j d q => by
  have q : (if 0 < j then some (D.int (i % j)) else none) = some d := q
  split at q
  · rename_i c
    cases q
    exact ⟨c, fun _ _ _ => is_int⟩
  · cases q
theorem o_pow : Op2 K W powF (rI CPow fun i j => .int (i ^ j.toNat)) := op2_int fun i j d q => by
  have q : (if 0 ≤ j ∧ powOk i j = true then some (D.int (i ^ j.toNat)) else none) = some d := q
  split at q
  · rename_i c
    cases q
    exact ⟨⟨c.1, (powOk_iff c.1).mp c.2⟩, fun _ _ _ => is_int⟩
  · cases q
theorem shl_ok {i j : Int} (c : 0 ≤ j ∧ j ≤ 1000000 ∧ i.natAbs.log2 ≤ 1000000) : CShl i j := by
  refine ⟨c.1, ?_⟩
  have h1 : Builtin.Int.intBits i ≤ i.natAbs.log2 + 1 := by
    unfold Builtin.Int.intBits
    split <;> omega
  have h2 := c.2.1
  have h3 := c.2.2
  omega
theorem o_shl : Op2 K W shlF (rI CShl fun i j => .int (i * 2 ^ j.toNat)) := op2_int fun i j d q => by
  have q : (if 0 ≤ j ∧ shlOk i j = true then some (D.int (i * 2 ^ j.toNat)) else none) = some d := q
  split at q
  · rename_i c
    cases q
    exact ⟨shl_ok ⟨c.1, (shlOk_iff c.1).mp c.2⟩, fun _ _ _ => is_int⟩
  · cases q
theorem o_shr : Op2 K W shrF (rI (fun _ j => 0 ≤ j) fun i j => .int (i / 2 ^ j.toNat)) := op2_int fun i j d q => by
  have q : (if 0 ≤ j then some (D.int (i / 2 ^ j.toNat)) else none) = some d := q
  split at q
  · rename_i c
    cases q
    exact ⟨c, fun _ _ _ => is_int⟩
  · cases q

/-! ### + of texts, tuples, lists; * of lists -/
def sAdd : D → D → PH → Res D := fun a b h => match a, b with
  | .str x, .str y => if x.length + y.length ≤ 16777216 then .ok (.str (x ++ y)) h else .stuck
  | _, _ => .stuck
theorem o_sadd : Op2 K W sAdd (fun x y H Q => ∃ i j, x = .str i ∧ y = .str j ∧ i.length + j.length ≤ sizeLine ∧ Q (.str (i ++ j)) H) := by
  intro σ ρ h H d e x y Q at_ rx ry p
  unfold sAdd at p
  split at p
  · split at p
    · rename_i i j c
      exact ⟨i, j, rx.1.str, ry.1.str, by rw [sizeLine_eq]; exact c, p ρ _ H at_.refl is_str⟩
    · exact p.elim
  · exact p.elim
/-- the items of a list, wherever it stands -/
def itemsL (h : PH) : D → Option (List D)
  | .frl ds => some ds
  | .ref n => (match h.cs[n]? with
    | some (.lst ds) => some ds
    | _ => none)
  | _ => none
theorem itemsL_is {ρ : List Addr} {h : PH} {H : Hp} (x : At K ρ h H) {d : D} {v : V} {ds : List D} (e : itemsL h d = some ds) (r : RD K ρ H h.cs.length d v) :
    ∃ a xs, v = .ref a ∧ SqL K H a xs ∧ IsL K ρ H ds xs ∧ mrL ds ≤ h.cs.length := by
  cases d with
  | frl es =>
    have e' : some es = some ds := e
    cases e'
    obtain ⟨a, xs, h1, h2, h3⟩ := r.1.frl
    exact ⟨a, xs, h1, h2.sq, h3, r.2⟩
  | ref n =>
    have e' : (match h.cs[n]? with
    | some (.lst ds) => some ds
    | _ => none) = some ds := e
    split at e'
    · rename_i es q
      cases e'
      obtain ⟨a, xs, h1, _, h2, h3, h4⟩ := x.lst q r.1
      exact ⟨a, xs, h1, SqL.of h2, h3, h4⟩
    · cases e'
  | _ => cases e
/-- the items of a list or a tuple -/
def itemsS (h : PH) : D → Option (List D)
  | .tup ds => some ds
  | d => itemsL h d
def refLst (h : PH) : D → Option (Nat × List D)
  | .ref n => (match h.cs[n]? with
    | some (.lst ds) => some (n, ds)
    | _ => none)
  | _ => none
theorem refLst_is {ρ : List Addr} {h : PH} {H : Hp} (x : At K ρ h H) {d : D} {v : V} {n : Nat} {ds : List D} (e : refLst h d = some (n, ds)) (r : RD K ρ H h.cs.length d v) :
    d = .ref n ∧ h.cs[n]? = some (.lst ds) ∧ ∃ a xs, v = .ref a ∧ ρ[n]? = some a ∧ H a = some (.lst xs) ∧ IsL K ρ H ds xs ∧ mrL ds ≤ h.cs.length := by
  cases d with
  | ref m =>
    have e' : (match h.cs[m]? with
    | some (.lst ds) => some (m, ds)
    | _ => none) = some (n, ds) := e
    split at e'
    · rename_i es q
      cases e'
      exact ⟨rfl, q, x.lst q r.1⟩
    · cases e'
  | _ => cases e
/-- a new list of given items: the end of an operation -/
theorem push_lst {ρ : List Addr} {h : PH} {H : Hp} (x : At K ρ h H) {ds : List D} {xs : List V} (i : IsL K ρ H ds xs) (l : mrL ds ≤ h.cs.length) {p : Addr} (hp : H p = none) :
    ∃ ρ', Ext K ρ H (h.push (.lst ds)) ρ' (upd H p (.lst xs)) ∧ RD K ρ' (upd H p (.lst xs)) (h.push (.lst ds)).cs.length (.ref h.cs.length) (.ref p) := by
  refine ⟨ρ ++ [p], Ext.push x.heap x.wf hp l fun H' e k => ⟨xs, e, IsL.mono k ρ.length (fun i hi a ha => by rw [List.getElem?_append_left hi]; exact ha) ds xs (by rw [x.heap.len]; exact l) i⟩, ?_, ?_⟩
  · unfold Is
    exact ⟨p, by rw [← x.heap.len, List.getElem?_append_right (Nat.le_refl _), Nat.sub_self]; rfl, rfl⟩
  · unfold D.mr
    show _ ≤ (h.cs ++ [Cell.lst ds]).length
    rw [List.length_append]; exact Nat.le_refl _
/-- a new tuple -/
theorem push_tup {ρ : List Addr} {h : PH} {H : Hp} (x : At K ρ h H) {ds : List D} {xs : List V} (i : IsL K ρ H ds xs) (l : mrL ds ≤ h.cs.length) {p : Addr} (hp : H p = none) :
    Ext K ρ H h ρ (upd H p (.tup xs)) ∧ RD K ρ (upd H p (.tup xs)) h.cs.length (.tup ds) (.ref p) := by
  have e := Ext.obj (o := .tup xs) x.heap x.wf hp
  refine ⟨e, ?_, l⟩
  unfold Is
  exact ⟨p, xs, rfl, SqT.of upd_same, e.isL (by rw [x.heap.len]; exact l) i⟩
def newL (ds : List D) (h : PH) : Res D := .ok (.ref h.cs.length) (h.push (.lst ds))
def lAdd : D → D → PH → Res D := fun a b h => match refLst h a, refLst h b with
  | some (_, xs), some (_, ys) => if xs.length + ys.length ≤ 16777216 then newL (xs ++ ys) h else .stuck
  | _, _ => .stuck
theorem o_ladd : Op2 K W lAdd rCat := by
  intro σ ρ h H d e x y Q at_ rx ry p
  unfold lAdd at p
  split at p
  · rename_i n ds m es q1 q2
    split at p
    · rename_i c
      obtain ⟨_, _, a, xs, rfl, _, h1, i1, l1⟩ := refLst_is at_ q1 rx
      obtain ⟨_, _, b, ys, rfl, _, h2, i2, l2⟩ := refLst_is at_ q2 ry
      refine ⟨a, b, xs, ys, rfl, rfl, h1, h2, by rw [sizeLine_eq, i1.length, i2.length]; exact c, fun q hq => ?_⟩
      obtain ⟨ρ', e1, e2⟩ := push_lst at_ (i1.append i2) (by rw [mrL_append]; omega) hq
      exact p ρ' _ _ e1 e2
    · exact p.elim
  · exact p.elim
def tAddF : D → D → PH → Res D := fun a b h => match a, b with
  | .tup xs, .tup ys => if xs.length + ys.length ≤ 16777216 then .ok (.tup (xs ++ ys)) h else .stuck
  | _, _ => .stuck
theorem IsL.nil {ρ : List Addr} {H : Hp} {xs : List V} (h : IsL K ρ H [] xs) : xs = [] := by unfold IsL at h; exact h
theorem IsL.ne {ρ : List Addr} {H : Hp} {d : D} {ds : List D} {xs : List V} (h : IsL K ρ H (d :: ds) xs) : xs ≠ [] := by
  unfold IsL at h
  obtain ⟨x, r, rfl, _⟩ := h
  exact fun z => by cases z
theorem IsL.nil_of {ρ : List Addr} {H : Hp} {ds : List D} (h : IsL K ρ H ds []) : ds = [] := by
  cases ds with
  | nil => rfl
  | cons d ds => exact absurd rfl h.ne
theorem o_tadd : Op2 K W tAddF (rCatA K) := by
  intro σ ρ h H d e x y Q at_ rx ry p
  unfold tAddF at p
  split at p
  · rename_i ds es
    split at p
    · rename_i c
      obtain ⟨a, xs, rfl, s1, i1⟩ := rx.1.tup
      obtain ⟨b, ys, rfl, s2, i2⟩ := ry.1.tup
      have l1 : mrL ds ≤ h.cs.length := rx.2
      have l2 : mrL es ≤ h.cs.length := ry.2
      refine ⟨a, b, xs, ys, rfl, rfl, s1, s2, by rw [sizeLine_eq, i1.length, i2.length]; exact c, fun z => ?_, fun _ z => ?_, fun _ _ q hq => ?_⟩
      · subst z
        have ez := i1.nil_of
        subst ez
        exact p ρ (.ref b) H at_.refl ry
      · subst z
        have ez := i2.nil_of
        subst ez
        refine p ρ (.ref a) H at_.refl ⟨?_, ?_⟩
        · rw [List.append_nil]; exact rx.1
        · rw [List.append_nil]; exact rx.2
      · obtain ⟨e1, e2⟩ := push_tup at_ (i1.append i2) (by rw [mrL_append]; omega) hq
        exact p ρ _ _ e1 e2
    · exact p.elim
  · exact p.elim
/-- + -/
def addF : D → D → PH → Res D := fun a b h => match a with
  | .int _ => iAdd a b h
  | .str _ => sAdd a b h
  | .tup _ => tAddF a b h
  | _ => lAdd a b h
theorem o_add : Op2 K W addF (fun x y H Q => (rI0 fun i j => .int (i + j)) x y H Q ∨ (fun x y H Q => (∃ i j, x = .str i ∧ y = .str j ∧ i.length + j.length ≤ sizeLine ∧ Q (.str (i ++ j)) H)) x y H Q ∨ rCatA K x y H Q ∨ rCat x y H Q) := by
  intro σ ρ h H d e x y Q at_ rx ry p
  cases d with
  | int i => exact .inl (o_iadd σ ρ h H _ e x y Q at_ rx ry p)
  | str i => exact .inr (.inl (o_sadd σ ρ h H _ e x y Q at_ rx ry p))
  | tup i => exact .inr (.inr (.inl (o_tadd σ ρ h H _ e x y Q at_ rx ry p)))
  | _ => exact .inr (.inr (.inr (o_ladd σ ρ h H _ e x y Q at_ rx ry p)))
/-- a list, a tuple some times -/
def lRep : D → D → PH → Res D := fun a b h => match refLst h a, b with
  | some (_, xs), .int k => if -(2 ^ 63) ≤ k ∧ k < 2 ^ 63 ∧ xs.length * k.toNat ≤ 16777216 then newL (List.replicate k.toNat xs).flatten h else .stuck
  | _, _ => .stuck
theorem IsL.rep {ρ : List Addr} {H : Hp} {ds : List D} {xs : List V} (h : IsL K ρ H ds xs) : ∀ n, IsL K ρ H (List.replicate n ds).flatten (List.replicate n xs).flatten
  | 0 => by show IsL K ρ H [] []; unfold IsL; rfl
  | n + 1 => by
    rw [List.replicate_succ, List.replicate_succ, List.flatten_cons, List.flatten_cons]
    exact h.append (IsL.rep h n)
theorem mrL_rep {ds : List D} : ∀ n, mrL (List.replicate n ds).flatten ≤ mrL ds
  | 0 => Nat.zero_le _
  | n + 1 => by
    rw [List.replicate_succ, List.flatten_cons, mrL_append]
    have := mrL_rep (ds := ds) n; omega
theorem o_lrep : Op2 K W lRep rRep := by
  intro σ ρ h H d e x y Q at_ rx ry p
  unfold lRep at p
  split at p
  · rename_i n ds k q1
    split at p
    · rename_i c
      obtain ⟨_, _, a, xs, rfl, _, h1, i1, l1⟩ := refLst_is at_ q1 rx
      refine ⟨a, k, xs, rfl, ry.1.int, h1, c.1, c.2.1, by rw [sizeLine_eq, i1.length]; exact c.2.2, fun q hq => ?_⟩
      obtain ⟨ρ', e1, e2⟩ := push_lst at_ (i1.rep k.toNat) (Nat.le_trans (mrL_rep _) l1) hq
      exact p ρ' _ _ e1 e2
    · exact p.elim
  · exact p.elim
/-- a tuple some times: to five thousand -/
def rRepW (K : PySem.W.Frag) : R2 := fun x y H Q => ∃ a n zs, x = .ref a ∧ y = .int n ∧ SqT K H a zs ∧ 0 < zs.length ∧ zs.length ≤ 1000 ∧ 2 ≤ n ∧ n ≤ 5000 ∧ ∀ p, H p = none → Q (.ref p) (upd H p (.tup (List.replicate n.toNat zs).flatten))
theorem rep_room {a n : Nat} (ha : a ≤ 1000) (hn : n ≤ 5000) : n * a ≤ 5000000 := Nat.le_trans (Nat.mul_le_mul hn ha) (by decide)
theorem op_repW {X : Cx} : OpR X (binaryOp .Mult) (rRepW X.K) := by
  intro pins s σ H x y v u Q I rx ry ⟨a, n, zs, ex, ey, sq, l0, l1, n0, n1, q⟩
  subst ex; subst ey
  obtain rfl : v = Value.ref a := rx
  obtain ⟨t, rfl⟩ := ry
  obtain ⟨vs, rel, ⟨⟨oc, od, dt, osl⟩, at_, isT, cap, isD⟩, _⟩ := I.tuple sq
  have isT : oc = .type "tuple" := isT
  have isD : dt = .seq vs.toArray cap := isD
  subst isT; subst isD
  have len : vs.length = zs.length := rel.length.symm
  have sz : vs.toArray.size = zs.length := len
  have emp : vs.toArray.isEmpty = false := by
    cases vs with
    | nil => rw [← len] at l0; exact absurd l0 (Nat.lt_irrefl 0)
    | cons _ _ => rfl
  obtain ⟨m, rfl⟩ := Int.eq_ofNat_of_zero_le (show (0 : Int) ≤ n by omega)
  have room := rep_room (a := zs.length) (n := m) l1 (by omega)
  have fl : (List.replicate m vs).flatten.length ≤ sizeLine := by
    rw [PyProof.Rows.lm_len_rep_flat, len, sizeLine_eq]
    exact Nat.le_trans room (by decide)
  have fold : List.foldl (fun x1 x2 => x1 ++ x2) #[] (List.replicate m vs.toArray) = (List.replicate m vs).flatten.toArray := size_rep vs m
  have big : ((vs.toArray.size : Nat) : Int) * (m : Int) ≤ 5000000 := by
    rw [sz]
    have : ((m * zs.length : Nat) : Int) ≤ 5000000 := by omega
    rw [Int.natCast_mul, Int.mul_comm] at this
    exact this
  have w := tuple_mulW a vs.toArray cap od osl (m : Int) t (by simp; omega) (by rw [emp, Bool.false_or]; exact beq_eq_false_iff_ne.mpr (by omega)) (by rw [emp, Bool.or_false]; exact decide_eq_false (by omega)) (fun z => by omega)
    (by unfold Builtin.Tuple.tupleTooMany; rw [sizeLine_eq]; exact decide_eq_false (by omega)) (by rw [Int.toNat_natCast, fold]; exact fl)
  rw [Int.toNat_natCast, fold] at w
  have fresh := I.hok.fresh (Nat.le_refl s.heap.objs.size)
  have ty : s.TypeIs (.ref a) "tuple" := ⟨_, at_, rfl⟩
  refine wpAny_binaryOp_repeat_ref (T := "tuple") (U := "int") (by decide) ty (fun s' => typeIs_int s' _ t) noFill_tuple_mul F.fills_int_mul F.slot_int_rmul repeat_tuple F.slot_int_index.lookup ?_
  refine call_meets F.slot_int_rmul (typeIs_int s _ t) F.entry_int_rmul (F.args_int_rmul_2 _ _) (int_rmul_tuple _ t a vs.toArray cap od osl) ⟨at_, rfl, ty, ?_⟩
  refine call_meets F.slot_tuple_mul ty F.entry_tuple_mul (F.args_tuple_mul_2 _ _) w ⟨at_, ?_⟩
  exact ⟨.ref s.heap.objs.size, _, I.laid (t' := s.toks) (o := .tup (List.replicate m zs).flatten) (fun _ _ z => Heap.get?_push_of_some _ z) (Nat.le_refl _) ⟨by rw [← (rel.rep m).length] at fl; exact fl, _, rel.rep m, IsTup.new _ _⟩, rfl, q _ fresh⟩
def tRep : D → D → PH → Res D := fun a b h => match a, b with
  | .tup (x :: xs), .int k => if 2 ≤ k ∧ k ≤ 5000 ∧ (x :: xs).length ≤ 1000 then .ok (.tup (List.replicate k.toNat (x :: xs)).flatten) h else .stuck
  | _, _ => .stuck
theorem o_trep : Op2 K W tRep (rRepW K) := by
  intro σ ρ h H d e x y Q at_ rx ry p
  unfold tRep at p
  split at p
  · rename_i d ds k
    split at p
    · rename_i c
      obtain ⟨a, xs, rfl, s1, i1⟩ := rx.1.tup
      refine ⟨a, k, xs, rfl, ry.1.int, s1, by rw [i1.length]; exact Nat.zero_lt_succ _, by rw [i1.length]; exact c.2.2, c.1, c.2.1, fun q hq => ?_⟩
      obtain ⟨e1, e2⟩ := push_tup at_ (i1.rep k.toNat) (Nat.le_trans (mrL_rep _) rx.2) hq
      exact p ρ _ _ e1 e2
    · exact p.elim
  · exact p.elim
/-- a text some times -/
def repS (x : Str) (n : Nat) : Str := ⟨(List.replicate n x.cps).foldl (· ++ ·) #[]⟩
def rRepS : R2 := fun x y H Q => ∃ (i : Str) (k : Int), x = .str i ∧ y = .int k ∧ ((2 ≤ k ∧ k ≤ 1000 ∧ 1 ≤ i.length ∧ i.length ≤ 1000 ∧ (repS i k.toNat).length ≤ sizeLine ∧ Q (.str (repS i k.toNat)) H) ∨ (k = 1 ∧ Q (.str i) H) ∨ (k = 0 ∧ Q (.str Str.empty) H))
theorem op_repS {X : Cx} : OpR X (binaryOp .Mult) rRepS := by
  intro pins s σ H x y v u Q I rx ry h
  obtain ⟨i, k, rfl, rfl, h⟩ := h
  obtain ⟨t, rfl⟩ := rx
  obtain ⟨t', rfl⟩ := ry
  rcases h with h | ⟨rfl, q⟩ | ⟨rfl, q⟩
  rotate_left
  · refine PySem.P.mul_str rfl (fun _ a => by simp at a) (fun _ a => by simp at a) ?_
    rw [if_neg (by omega), if_pos (by simp)]
    exact ⟨.str i, H, I, ⟨_, rfl⟩, q⟩
  · exact PySem.P.mul_str_none (by omega) (by omega) ⟨.str Str.empty, H, I.tok _, ⟨_, rfl⟩, q⟩
  obtain ⟨k1, k2, z1, z2, hz, q⟩ := h
  have hm : i.length * k.toNat ≤ 1000 * 1000 := Nat.mul_le_mul z2 (by omega)
  refine PySem.P.mul_str (by rw [decide_eq_false (by omega), decide_eq_false (by omega)]; rfl) (fun _ _ => ?_) (fun _ _ => ?_) ?_
  · have m2 : (i.length : Int) * k ≤ 2 ^ 63 - 1 := by
      have e : ((i.length * k.toNat : Nat) : Int) = (i.length : Int) * k := by rw [Int.natCast_mul, Int.toNat_of_nonneg (by omega)]
      omega
    have := Int.le_ediv_of_mul_le (show 0 < k by omega) m2
    omega
  · show PySem.Builtin.Str.tooLong (i.length * k.toNat) = false
    unfold PySem.Builtin.Str.tooLong
    exact decide_eq_false (by rw [sizeLine_eq]; omega)
  · rw [if_neg (by omega), if_neg (by simp; omega)]
    exact ⟨hz, .str (repS i k.toNat), H, I.tok _, ⟨_, rfl⟩, q⟩
def sRep : D → D → PH → Res D := fun a b h => match a, b with
  | .str x, .int k => if 2 ≤ k ∧ k ≤ 1000 ∧ 1 ≤ x.length ∧ x.length ≤ 1000 ∧ (repS x k.toNat).length ≤ 16777216 then .ok (.str (repS x k.toNat)) h else if k = 1 then .ok (.str x) h else if k = 0 then .ok (.str Str.empty) h else .stuck
  | _, _ => .stuck
theorem o_srep : Op2 K W sRep rRepS := by
  intro σ ρ h H d e x y Q at_ rx ry p
  unfold sRep at p
  split at p
  · rename_i i k
    split at p
    · rename_i c
      obtain ⟨c1, c2, c3, c4, c5⟩ := c
      exact ⟨i, k, rx.1.str, ry.1.int, .inl ⟨c1, c2, c3, c4, by rw [sizeLine_eq]; exact c5, p ρ _ H at_.refl is_str⟩⟩
    · split at p
      · rename_i c
        exact ⟨i, k, rx.1.str, ry.1.int, .inr (.inl ⟨c, p ρ _ H at_.refl is_str⟩)⟩
      · split at p
        · rename_i c
          exact ⟨i, k, rx.1.str, ry.1.int, .inr (.inr ⟨c, p ρ _ H at_.refl is_str⟩)⟩
        · exact p.elim
  · exact p.elim
def mulF : D → D → PH → Res D := fun a b h => match a with
  | .int _ => iMul a b h
  | .tup _ => tRep a b h
  | .str _ => sRep a b h
  | _ => lRep a b h
theorem o_mul : Op2 K W mulF (fun x y H Q => (rI CMulW fun i j => .int (i * j)) x y H Q ∨ rRepW K x y H Q ∨ rRepS x y H Q ∨ rRep x y H Q) := by
  intro σ ρ h H d e x y Q at_ rx ry p
  cases d with
  | int i => exact .inl (o_imul σ ρ h H _ e x y Q at_ rx ry p)
  | tup i => exact .inr (.inl (o_trep σ ρ h H _ e x y Q at_ rx ry p))
  | str i => exact .inr (.inr (.inl (o_srep σ ρ h H _ e x y Q at_ rx ry p)))
  | _ => exact .inr (.inr (.inr (o_lrep σ ρ h H _ e x y Q at_ rx ry p)))
/-- -a -/
def negF : D → PH → Res D := fun a h => match a with
  | .int i => .ok (.int (-i)) h
  | _ => .stuck
theorem o_neg : Op1 K W negF (rU fun i => .int (-i)) := by
  intro σ ρ h H d x Q at_ rx p
  unfold negF at p
  split at p
  · rename_i i
    exact ⟨i, rx.1.int, p ρ _ H at_.refl is_int⟩
  · exact p.elim

/-! ### comparisons -/
def intB (f : Int → Int → Bool) : D → D → PH → Res D := stepI fun i j => some (.bl (f i j))
theorem o_intB {f : Int → Int → Bool} : Op2 K W (intB f) (rI0 fun i j => .bl (f i j)) := op2_int0 fun i j d q _ _ _ => by cases q; exact is_bl
/-- the ints of a list -/
def intsOf : List D → Option (List Int)
  | [] => some []
  | .int i :: r => (match intsOf r with
    | some l => some (i :: l)
    | none => none)
  | _ :: _ => none
theorem intsOf_is {ρ : List Addr} {H : Hp} : ∀ {ds : List D} {ns : List Int} {xs : List V}, intsOf ds = some ns → IsL K ρ H ds xs → xs = ns.map V.int
  | [], ns, xs, e, h => by cases e; exact h.nil
  | d :: ds, ns, xs, e, h => by
    unfold IsL at h
    obtain ⟨x, r, rfl, h1, h2⟩ := h
    cases d with
    | int i =>
      have e' : (match intsOf ds with | some l => some (i :: l) | none => none) = some ns := e
      cases q : intsOf ds with
      | none => rw [q] at e'; cases e'
      | some l =>
        rw [q] at e'
        cases e'
        rw [h1.int, intsOf_is q h2]; rfl
    | _ => cases e
def ltT : D → D → PH → Res D := fun a b h => match a, b with
  | .tup xs, .tup ys => (match intsOf xs, intsOf ys with
    | some ns, some ms => .ok (.bl (HT.lexLt ns ms)) h
    | _, _ => .stuck)
  | _, _ => .stuck
theorem o_ltT : Op2 K W ltT (rLtT K) := by
  intro σ ρ h H d e x y Q at_ rx ry p
  unfold ltT at p
  split at p
  · split at p
    · rename_i ns ms q1 q2
      obtain ⟨a, xs, rfl, s1, i1⟩ := rx.1.tup
      obtain ⟨b, ys, rfl, s2, i2⟩ := ry.1.tup
      have z1 := intsOf_is q1 i1
      have z2 := intsOf_is q2 i2
      subst z1; subst z2
      exact ⟨a, b, ns, ms, rfl, rfl, s1, s2, p ρ _ H at_.refl is_bl⟩
    · exact p.elim
  · exact p.elim
def ltF : D → D → PH → Res D := fun a b h => match a with
  | .int _ => intB (fun i j => decide (i < j)) a b h
  | _ => ltT a b h
theorem o_lt : Op2 K W ltF (fun x y H Q => (rI0 fun i j => .bl (decide (i < j))) x y H Q ∨ rLtT K x y H Q) := by
  intro σ ρ h H d e x y Q at_ rx ry p
  cases d with
  | int i => exact .inl (o_intB σ ρ h H _ e x y Q at_ rx ry p)
  | _ => exact .inr (o_ltT σ ρ h H _ e x y Q at_ rx ry p)
def leF : D → D → PH → Res D := intB fun i j => decide (i ≤ j)
def gtF : D → D → PH → Res D := intB fun i j => decide (j < i)
def geF : D → D → PH → Res D := intB fun i j => decide (j ≤ i)

/-! ### data -/
mutual
def toPyG (f : Nat → Option PyData) : D → Option PyData
  | .non => some .none
  | .bl b => some (.bool b)
  | .int i => some (.int i)
  | .str x => some (.str x)
  | .tup ds => (match toPyL f ds with
    | some ps => some (.tuple ps)
    | none => none)
  | .frl ds => (match toPyL f ds with
    | some ps => some (.list ps)
    | none => none)
  | .ref n => f n
  | .ty _ => none
  | .glb _ => none
def toPyL (f : Nat → Option PyData) : List D → Option (List PyData)
  | [] => some []
  | d :: ds => (match toPyG f d with
    | some p => (match toPyL f ds with
      | some ps => some (p :: ps)
      | none => none)
    | none => none)
end
def cellPy (h : PH) : Nat → Nat → Option PyData
  | 0, _ => none
  | k + 1, n => (match h.cs[n]? with
    | some (.lst ds) => (match toPyL (cellPy h k) ds with
      | some ps => some (.list ps)
      | none => none)
    | _ => none)
def toPy (h : PH) (d : D) : Option PyData := toPyG (cellPy h 3) d
mutual
theorem toPyG_is {ρ : List Addr} {H : Hp} {f : Nat → Option PyData} (hf : ∀ n p a, f n = some p → ρ[n]? = some a → Dp K H (.ref a) p) : ∀ (d : D) (p : PyData) (v : V), toPyG f d = some p → Is K ρ H d v → Dp K H v p
  | .non, p, v, e, h => by unfold toPyG at e; cases e; rw [h.non]; exact .non
  | .bl b, p, v, e, h => by unfold toPyG at e; cases e; rw [h.bl]; exact .bl b
  | .int i, p, v, e, h => by unfold toPyG at e; cases e; rw [h.int]; exact .int i
  | .str x, p, v, e, h => by unfold toPyG at e; cases e; rw [h.str]; exact .str x
  | .tup ds, p, v, e, h => by
    unfold toPyG at e
    obtain ⟨a, xs, rfl, s, i⟩ := h.tup
    split at e
    · rename_i ps q
      cases e
      exact .tup s (toPyL_is hf ds ps xs q i)
    · cases e
  | .frl ds, p, v, e, h => by
    unfold toPyG at e
    obtain ⟨a, xs, rfl, s, i⟩ := h.frl
    split at e
    · rename_i ps q
      cases e
      exact .lst s.sq (toPyL_is hf ds ps xs q i)
    · cases e
  | .ref n, p, v, e, h => by
    unfold toPyG at e
    obtain ⟨a, ha, rfl⟩ := h.ref
    exact hf n p a e ha
  | .ty _, p, v, e, h => by unfold toPyG at e; cases e
  | .glb _, p, v, e, h => by unfold toPyG at e; cases e
theorem toPyL_is {ρ : List Addr} {H : Hp} {f : Nat → Option PyData} (hf : ∀ n p a, f n = some p → ρ[n]? = some a → Dp K H (.ref a) p) : ∀ (ds : List D) (ps : List PyData) (xs : List V), toPyL f ds = some ps → IsL K ρ H ds xs → DpAll K H xs ps
  | [], ps, xs, e, h => by unfold toPyL at e; cases e; rw [h.nil]; exact .nil
  | d :: ds, ps, xs, e, h => by
    unfold toPyL at e
    unfold IsL at h
    obtain ⟨x, r, rfl, h1, h2⟩ := h
    split at e
    · rename_i p q1
      split at e
      · rename_i qs q2
        cases e
        exact .cons (toPyG_is hf d p x q1 h1) (toPyL_is hf ds qs r q2 h2)
      · cases e
    · cases e
end
theorem cellPy_is {ρ : List Addr} {h : PH} {H : Hp} (x : At K ρ h H) : ∀ k n p a, cellPy h k n = some p → ρ[n]? = some a → Dp K H (.ref a) p
  | 0, n, p, a, e, _ => by cases e
  | k + 1, n, p, a, e, ha => by
    unfold cellPy at e
    split at e
    · rename_i ds q
      split at e
      · rename_i ps q2
        cases e
        obtain ⟨xs, h1, h2⟩ := x.heap.at_ n _ a q ha
        exact .lst (SqL.of h1) (toPyL_is (cellPy_is x k) ds ps xs q2 h2)
      · cases e
    · cases e
theorem toPy_is {ρ : List Addr} {h : PH} {H : Hp} (x : At K ρ h H) {d : D} {p : PyData} {v : V} (e : toPy h d = some p) (i : Is K ρ H d v) : Dp K H v p := toPyG_is (cellPy_is x 3) d p v e i
def eqD (h : PH) (a b : D) : Option Bool := match toPy h a with
  | some p => (match toPy h b with
    | some q => if SeqAt.shaped p = true ∧ SeqAt.shaped q = true then some (PyData.eqv p q) else none
    | none => none)
  | none => none
def eqB (a b : D) (h : PH) : Option Bool := match a, b with
  | .int i, .int j => some (decide (i = j))
  | .str i, .str j => some (decide (i = j))
  | .bl i, .bl j => some (decide (i = j))
  | a, b => eqD h a b
theorem eqB_is {ρ : List Addr} {h : PH} {H : Hp} (at_ : At K ρ h H) {a b : D} {x y : V} {c : Bool} (e : eqB a b h = some c) (rx : RD K ρ H h.cs.length a x) (ry : RD K ρ H h.cs.length b y) :
    (scal x y = true ∧ c = decide (x = y)) ∨ ∃ d e, Dp K H x d ∧ Dp K H y e ∧ SeqAt.shaped d = true ∧ SeqAt.shaped e = true ∧ c = PyData.eqv d e := by
  unfold eqB at e
  split at e
  · rename_i i j
    cases e
    rw [rx.1.int, ry.1.int]
    refine .inl ⟨rfl, ?_⟩
    rw [dec_int, Bool.beq_eq_decide_eq]
  · rename_i i j
    cases e
    rw [rx.1.str, ry.1.str]
    refine .inl ⟨rfl, ?_⟩
    rw [dec_str, Bool.beq_eq_decide_eq]
  · rename_i i j
    cases e
    rw [rx.1.bl, ry.1.bl]
    refine .inl ⟨rfl, ?_⟩
    rw [dec_bl, Bool.beq_eq_decide_eq]
  · unfold eqD at e
    split at e
    · rename_i p q1
      split at e
      · rename_i q q2
        split at e
        · rename_i c
          cases e
          exact .inr ⟨p, q, toPy_is at_ q1 rx.1, toPy_is at_ q2 ry.1, c.1, c.2, rfl⟩
        · cases e
      · cases e
    · cases e
def eqF : D → D → PH → Res D := fun a b h => match eqB a b h with
  | some c => .ok (.bl c) h
  | none => .stuck
def neF : D → D → PH → Res D := fun a b h => match eqB a b h with
  | some c => .ok (.bl (!c)) h
  | none => .stuck
theorem o_eq : Op2 K W eqF (fun x y H Q => rEq x y H Q ∨ rEqD K x y H Q) := by
  intro σ ρ h H d e x y Q at_ rx ry p
  unfold eqF at p
  split at p
  · rename_i c q
    rcases eqB_is at_ q rx ry with ⟨h1, h2⟩ | ⟨d, e, h1, h2, h3, h4, h5⟩
    · subst h2
      exact .inl ⟨h1, p ρ _ H at_.refl is_bl⟩
    · subst h5
      exact .inr ⟨d, e, h1, h2, h3, h4, p ρ _ H at_.refl is_bl⟩
  · exact p.elim
theorem o_ne : Op2 K W neF (fun x y H Q => rNe x y H Q ∨ rNeD K x y H Q) := by
  intro σ ρ h H d e x y Q at_ rx ry p
  unfold neF at p
  split at p
  · rename_i c q
    rcases eqB_is at_ q rx ry with ⟨h1, h2⟩ | ⟨d, e, h1, h2, h3, h4, h5⟩
    · subst h2
      exact .inl ⟨h1, p ρ _ H at_.refl is_bl⟩
    · subst h5
      exact .inr ⟨d, e, h1, h2, h3, h4, p ρ _ H at_.refl is_bl⟩
  · exact p.elim

/-! ### is None -/
def isNonD : D → Bool
  | .non => true
  | _ => false
def isF : D → D → PH → Res D := fun a b h => match b with
  | .non => .ok (.bl (isNonD a)) h
  | _ => .stuck
def isNotF : D → D → PH → Res D := fun a b h => match b with
  | .non => .ok (.bl (!isNonD a)) h
  | _ => .stuck
theorem isNonD_is {ρ : List Addr} {H : Hp} {d : D} {v : V} (h : Is K ρ H d v) : decide (v = .non) = isNonD d := by
  cases d with
  | non => rw [h.non]; rfl
  | int i => rw [h.int]; rfl
  | bl i => rw [h.bl]; rfl
  | str i => rw [h.str]; rfl
  | tup i => obtain ⟨_, _, rfl, _⟩ := h.tup; rfl
  | frl i => obtain ⟨_, _, rfl, _⟩ := h.frl; rfl
  | ref i => obtain ⟨_, _, rfl⟩ := h.ref; rfl
  | ty i => unfold Is at h; rw [h]; rfl
  | glb i => unfold Is at h; rw [h]; rfl
theorem o_is : Op2 K W isF (fun x y H Q => y = .non ∧ Q (.bl (decide (x = .non))) H) := by
  intro σ ρ h H d e x y Q at_ rx ry p
  unfold isF at p
  split at p
  · refine ⟨ry.1.non, ?_⟩
    rw [isNonD_is rx.1]
    exact p ρ _ H at_.refl is_bl
  · exact p.elim
theorem o_isNot : Op2 K W isNotF (fun x y H Q => y = .non ∧ Q (.bl (!decide (x = .non))) H) := by
  intro σ ρ h H d e x y Q at_ rx ry p
  unfold isNotF at p
  split at p
  · refine ⟨ry.1.non, ?_⟩
    rw [isNonD_is rx.1]
    exact p ρ _ H at_.refl is_bl
  · exact p.elim

/-! ### in -/
def flatD : D → Bool
  | .non => true
  | .bl _ => true
  | .int _ => true
  | .str _ => true
  | _ => false
def eqFl : D → D → Bool
  | .non, .non => true
  | .bl a, .bl b => a == b
  | .bl a, .int b => (if a then 1 else 0) == b
  | .int a, .bl b => a == (if b then 1 else 0)
  | .int a, .int b => a == b
  | .str a, .str b => a == b
  | _, _ => false
def strIn (x y : Str) : Bool := !(Builtin.Str.occurrences y x 0 y.length 1).isEmpty
theorem flat_is {ρ : List Addr} {H : Hp} {d : D} {v : V} (f : flatD d = true) (h : Is K ρ H d v) : flatV v = true := by
  cases d with
  | non => rw [h.non]; rfl
  | int i => rw [h.int]; rfl
  | bl i => rw [h.bl]; rfl
  | str i => rw [h.str]; rfl
  | _ => cases f
theorem flat_isL {ρ : List Addr} {H : Hp} : ∀ {ds : List D} {xs : List V}, ds.all flatD = true → IsL K ρ H ds xs → xs.all flatV = true
  | [], xs, _, h => by rw [h.nil]; rfl
  | d :: ds, xs, f, h => by
    unfold IsL at h
    obtain ⟨x, r, rfl, h1, h2⟩ := h
    rw [List.all_cons, Bool.and_eq_true] at f ⊢
    exact ⟨flat_is f.1 h1, flat_isL f.2 h2⟩
theorem eqFl_is {ρ : List Addr} {H : Hp} {d e : D} {v u : V} (f : flatD d = true) (g : flatD e = true) (h : Is K ρ H d v) (k : Is K ρ H e u) : eqV v u = eqFl d e := by
  cases d with
  | non => rw [h.non]; cases e with
    | non => rw [k.non]; rfl
    | int j => rw [k.int]; rfl
    | bl j => rw [k.bl]; rfl
    | str j => rw [k.str]; rfl
    | _ => cases g
  | int i => rw [h.int]; cases e with
    | non => rw [k.non]; rfl
    | int j => rw [k.int]; rfl
    | bl j => rw [k.bl]; rfl
    | str j => rw [k.str]; rfl
    | _ => cases g
  | bl i => rw [h.bl]; cases e with
    | non => rw [k.non]; rfl
    | int j => rw [k.int]; rfl
    | bl j => rw [k.bl]; rfl
    | str j => rw [k.str]; rfl
    | _ => cases g
  | str i => rw [h.str]; cases e with
    | non => rw [k.non]; rfl
    | int j => rw [k.int]; rfl
    | bl j => rw [k.bl]; rfl
    | str j => rw [k.str]; rfl
    | _ => cases g
  | _ => cases f
theorem inV_is {ρ : List Addr} {H : Hp} {e : D} {u : V} (g : flatD e = true) (k : Is K ρ H e u) : ∀ {ds : List D} {xs : List V}, ds.all flatD = true → IsL K ρ H ds xs → inV u xs = ds.any fun d => eqFl d e
  | [], xs, _, h => by rw [h.nil]; rfl
  | d :: ds, xs, f, h => by
    unfold IsL at h
    obtain ⟨x, r, rfl, h1, h2⟩ := h
    rw [List.all_cons, Bool.and_eq_true] at f
    unfold inV
    rw [List.any_cons, List.any_cons, eqFl_is f.1 g h1 k]
    have := inV_is g k f.2 h2
    unfold inV at this
    rw [this]
/-- is a in b -/
def inB (a b : D) (h : PH) : Option Bool := match b with
  | .str y => (match a with
    | .str x => some (strIn x y)
    | _ => none)
  | b => (match itemsS h b with
    | some ds => if flatD a = true ∧ ds.all flatD = true then some (ds.any fun d => eqFl d a) else
        (match toPy h a, toPy h b with
        | some p, some (.list ps) => if SeqAt.shaped p = true ∧ SeqAt.shaped (.list ps) = true then some (ps.any fun z => PyData.eqv z p) else none
        | _, _ => none)
    | none => none)
theorem itemsS_is {ρ : List Addr} {h : PH} {H : Hp} (x : At K ρ h H) {d : D} {v : V} {ds : List D} (e : itemsS h d = some ds) (r : RD K ρ H h.cs.length d v) :
    ∃ a xs, v = .ref a ∧ (SqL K H a xs ∨ SqT K H a xs) ∧ IsL K ρ H ds xs ∧ mrL ds ≤ h.cs.length := by
  cases d with
  | tup es =>
    have e' : some es = some ds := e
    cases e'
    obtain ⟨a, xs, h1, h2, h3⟩ := r.1.tup
    exact ⟨a, xs, h1, .inr h2, h3, r.2⟩
  | frl es =>
    obtain ⟨a, xs, h1, h2, h3, h4⟩ := itemsL_is (d := .frl es) x e r
    exact ⟨a, xs, h1, .inl h2, h3, h4⟩
  | ref n =>
    obtain ⟨a, xs, h1, h2, h3, h4⟩ := itemsL_is (d := .ref n) x e r
    exact ⟨a, xs, h1, .inl h2, h3, h4⟩
  | _ => cases e
theorem inB_is {ρ : List Addr} {h : PH} {H : Hp} (at_ : At K ρ h H) {a b : D} {x y : V} {c : Bool} (e : inB a b h = some c) (rx : RD K ρ H h.cs.length a x) (ry : RD K ρ H h.cs.length b y) :
    (∃ i j, x = .str i ∧ y = .str j ∧ c = !(Builtin.Str.occurrences j i 0 j.length 1).isEmpty) ∨ (∃ p xs, y = .ref p ∧ (SqL K H p xs ∨ SqT K H p xs) ∧ flatV x = true ∧ xs.all flatV = true ∧ c = inV x xs) ∨
      ∃ d ds, Dp K H x d ∧ Dp K H y (.list ds) ∧ SeqAt.shaped d = true ∧ SeqAt.shaped (.list ds) = true ∧ c = ds.any fun z => PyData.eqv z d := by
  unfold inB at e
  split at e
  · rename_i j
    cases a with
    | str i =>
      cases e
      exact .inl ⟨i, j, rx.1.str, ry.1.str, rfl⟩
    | _ => cases e
  · split at e
    · rename_i ds q
      split at e
      · rename_i f
        cases e
        obtain ⟨p, xs, rfl, s, i, _⟩ := itemsS_is at_ q ry
        exact .inr (.inl ⟨p, xs, rfl, s, flat_is f.1 rx.1, flat_isL f.2 i, (inV_is f.1 rx.1 f.2 i).symm⟩)
      · split at e
        · rename_i p ps q1 q2
          split at e
          · rename_i f
            cases e
            exact .inr (.inr ⟨p, ps, toPy_is at_ q1 rx.1, toPy_is at_ q2 ry.1, f.1, f.2, rfl⟩)
          · cases e
        · cases e
    · cases e
def inF : D → D → PH → Res D := fun a b h => match inB a b h with
  | some c => .ok (.bl c) h
  | none => .stuck
def notInF : D → D → PH → Res D := fun a b h => match inB a b h with
  | some c => .ok (.bl (!c)) h
  | none => .stuck
theorem o_in : Op2 K W inF (fun x y H Q => (fun x y H Q => ∃ i j, x = .str i ∧ y = .str j ∧ Q (.bl (!(Builtin.Str.occurrences j i 0 j.length 1).isEmpty)) H) x y H Q ∨ rIn K false x y H Q ∨ rInD K x y H Q) := by
  intro σ ρ h H d e x y Q at_ rx ry p
  unfold inF at p
  split at p
  · rename_i c q
    have fin := p ρ _ H at_.refl is_bl
    rcases inB_is at_ q rx ry with ⟨i, j, h1, h2, h3⟩ | ⟨a, xs, h1, h2, h3, h4, h5⟩ | ⟨d, ds, h1, h2, h3, h4, h5⟩
    · subst h3; exact .inl ⟨i, j, h1, h2, fin⟩
    · subst h5; exact .inr (.inl ⟨a, xs, h1, h2, h3, h4, fin⟩)
    · subst h5; exact .inr (.inr ⟨d, ds, h1, h2, h3, h4, fin⟩)
  · exact p.elim
theorem o_notIn : Op2 K W notInF (fun x y H Q => (fun x y H Q => ∃ i j, x = .str i ∧ y = .str j ∧ Q (.bl (!(!(Builtin.Str.occurrences j i 0 j.length 1).isEmpty))) H) x y H Q ∨ rIn K true x y H Q ∨ rNotInD K x y H Q) := by
  intro σ ρ h H d e x y Q at_ rx ry p
  unfold notInF at p
  split at p
  · rename_i c q
    have fin := p ρ _ H at_.refl is_bl
    rcases inB_is at_ q rx ry with ⟨i, j, h1, h2, h3⟩ | ⟨a, xs, h1, h2, h3, h4, h5⟩ | ⟨d, ds, h1, h2, h3, h4, h5⟩
    · subst h3; exact .inl ⟨i, j, h1, h2, fin⟩
    · subst h5; exact .inr (.inl ⟨a, xs, h1, h2, h3, h4, fin⟩)
    · subst h5; exact .inr (.inr ⟨d, ds, h1, h2, h3, h4, fin⟩)
  · exact p.elim

/-! ### subscripts, slices -/
def ixB (a i : D) (h : PH) : Option D := match i with
  | .int k => (match a with
    | .str x => if x.length ≤ 16777216 then (match atI x.cps.toList k with
      | some c => some (.str ⟨#[c]⟩)
      | none => none) else none
    | a => (match itemsS h a with
      | some ds => atI ds k
      | none => none))
  | _ => none
def ixF : D → D → PH → Res D := fun a i h => match ixB a i h with
  | some d => .ok d h
  | none => .stuck
theorem IsL.atI {ρ : List Addr} {H : Hp} {ds : List D} {xs : List V} {k : Int} {d : D} (h : IsL K ρ H ds xs) (e : atI ds k = some d) : ∃ v, L2.atI xs k = some v ∧ Is K ρ H d v ∧ d.mr ≤ mrL ds := by
  unfold L2.atI at e ⊢
  rw [h.length]
  cases q : ixN ds.length k with
  | none => rw [q] at e; cases e
  | some j =>
    rw [q] at e
    have e' : ds[j]? = some d := e
    obtain ⟨v, e1, e2⟩ := h.get e'
    exact ⟨v, e1, e2, mrL_get e'⟩
theorem o_ix : Op2 K W ixF (rIx K) := by
  intro σ ρ h H d e x y Q at_ rx ry p
  unfold ixF at p
  split at p
  · rename_i r q
    unfold ixB at q
    split at q
    · rename_i k
      split at q
      · rename_i z
        split at q
        · rename_i hz
          split at q
          · rename_i c q2
            cases q
            exact .inr (.inr ⟨z, k, c, rx.1.str, ry.1.int, by rw [sizeLine_eq]; exact hz, q2, p ρ _ H at_.refl is_str⟩)
          · cases q
        · cases q
      · split at q
        · rename_i ds q2
          obtain ⟨a, xs, rfl, s, i, l⟩ := itemsS_is at_ q2 rx
          obtain ⟨v, e1, e2, e3⟩ := i.atI q
          have fin := p ρ v H at_.refl ⟨e2, Nat.le_trans e3 l⟩
          rcases s with s | s
          · exact .inl ⟨a, xs, k, v, rfl, ry.1.int, s, e1, fin⟩
          · exact .inr (.inl ⟨a, xs, k, v, rfl, ry.1.int, s, e1, fin⟩)
        · cases q
    · cases q
  · exact p.elim
def cutD (ds : List D) (lo hi : Option Int) : List D := (ds.drop (HT.sIx ds.length 0 lo)).take (HT.sIx ds.length ds.length hi - HT.sIx ds.length 0 lo)
def slF (a : D) (lo hi : Option Int) (h : PH) : Res D := match a with
  | .tup ds => .ok (.tup (cutD ds lo hi)) h
  | .str x => if x.length ≤ 16777216 then .ok (.str (cutS x lo hi)) h else .stuck
  | a => (match itemsL h a with
    | some ds => newL (cutD ds lo hi) h
    | none => .stuck)
theorem IsL.cut {ρ : List Addr} {H : Hp} {ds : List D} {xs : List V} (h : IsL K ρ H ds xs) (lo hi : Option Int) : IsL K ρ H (cutD ds lo hi) (cutV xs lo hi) := by
  unfold cutD cutV
  rw [h.length]
  exact (h.drop _).take _
theorem mrL_cut {ds : List D} {lo hi : Option Int} : mrL (cutD ds lo hi) ≤ mrL ds := Nat.le_trans mrL_take mrL_drop
def rSlAll (K : KX) : V → Option Int → Option Int → Hp → VK → Prop := fun x lo hi H Q => rSlA K x lo hi H Q ∨ rSlS x lo hi H Q ∨ rSlL K x lo hi H Q
theorem o_sl {σ : L2.St} {ρ : List Addr} {h : PH} {H : Hp} {d : D} {x : V} {lo hi : Option Int} {Q : VK} (at_ : At K ρ h H) (rx : RD K ρ H h.cs.length d x) (p : PostG K W (RD K) σ Q ρ H (slF d lo hi h)) : rSlAll K x lo hi H Q := by
  unfold slF at p
  split at p
  · rename_i ds
    obtain ⟨a, xs, rfl, s, i⟩ := rx.1.tup
    have l : mrL ds ≤ h.cs.length := rx.2
    refine .inl ⟨a, xs, rfl, s, fun ⟨w1, w2⟩ => ?_, fun _ q hq => ?_⟩
    · have e : cutD ds lo hi = ds := by
        unfold cutD
        rw [i.length] at w1 w2
        rw [w1, w2, List.drop_zero, Nat.sub_zero, List.take_length]
      rw [e] at p
      exact p ρ _ H at_.refl rx
    · obtain ⟨e1, e2⟩ := push_tup at_ (i.cut lo hi) (Nat.le_trans mrL_cut l) hq
      exact p ρ _ _ e1 e2
  · split at p
    · rename_i z hz
      exact .inr (.inl ⟨z, rx.1.str, by rw [sizeLine_eq]; exact hz, p ρ _ H at_.refl is_str⟩)
    · exact p.elim
  · split at p
    · rename_i ds q2
      obtain ⟨a, xs, rfl, s, i, l⟩ := itemsL_is at_ q2 rx
      refine .inr (.inr ⟨a, xs, rfl, s, fun q hq => ?_⟩)
      obtain ⟨ρ', e1, e2⟩ := push_lst at_ (i.cut lo hi) (Nat.le_trans mrL_cut l) hq
      exact p ρ' _ _ e1 e2
    · exact p.elim

/-! ### truth -/
def truth (d : D) (h : PH) : Option Bool := match d with
  | .non => some false
  | .bl b => some b
  | .int i => some (i != 0)
  | .str y => if y.length ≤ 16777216 then some ((y.length : Int) != 0) else none
  | .tup ds => some (!ds.isEmpty)
  | d => (match itemsL h d with
    | some ds => some (!ds.isEmpty)
    | none => none)
theorem IsL.empty {ρ : List Addr} {H : Hp} {ds : List D} {xs : List V} (h : IsL K ρ H ds xs) : ds.isEmpty = xs.isEmpty := by
  cases ds with
  | nil => rw [h.nil]; rfl
  | cons d ds => unfold IsL at h; obtain ⟨x, r, rfl, _⟩ := h; rfl
theorem truth_is {ρ : List Addr} {h : PH} {H : Hp} (at_ : At K ρ h H) {d : D} {x : V} {k : Bool} (e : truth d h = some k) (rx : RD K ρ H h.cs.length d x) : TruV K x H k := by
  unfold truth at e
  split at e
  · cases e; rw [rx.1.non]; rfl
  · cases e; rw [rx.1.bl]; rfl
  · cases e; rw [rx.1.int]; rfl
  · split at e
    · rename_i z hz
      cases e; rw [rx.1.str]; exact ⟨by rw [sizeLine_eq]; exact hz, rfl⟩
    · cases e
  · cases e
    obtain ⟨a, xs, rfl, s, i⟩ := rx.1.tup
    exact .inr (.inl ⟨xs, s, by rw [i.empty]⟩)
  · split at e
    · rename_i ds q
      cases e
      obtain ⟨a, xs, rfl, s, i, _⟩ := itemsL_is at_ q rx
      exact .inl ⟨xs, s, by rw [i.empty]⟩
    · cases e
end
end Dy

/-! Tests, subscripts, slices, the walked things, statements. -/
namespace Dy
open PySem PySem.Spec PyProof.Rows L2
section
variable {X : Cx} {W : WJ}
/-! ### tests -/
def tbT (m : EM) : TM := fun e h => (m e h).bind fun d h1 => match d with
  | .bl b => .ok b h1
  | _ => .stuck
def trT (m : EM) : TM := fun e h => (m e h).bind fun d h1 => match truth d h1 with
  | some b => .ok b h1
  | none => .stuck
def andT (t u : TM) : TM := fun e h => (t e h).bind fun b h1 => match b with
  | true => u e h1
  | false => .ok false h1
def orT (t u : TM) : TM := fun e h => (t e h).bind fun b h1 => match b with
  | true => .ok true h1
  | false => u e h1
def notT (t : TM) : TM := fun e h => (t e h).bind fun b h1 => .ok (!b) h1
theorem dt_cmp {a b : Expr} {op : CmpOp} {pos : Pos} {ma mb : EM} {f : D → D → PH → Res D} {r : R2} (ho : OpR X (compareOp op) r) (hf : Op2 (kx X W) W f r) (ha : DE X W a ma) (hb : DE X W b mb) (hm : behindInMarks op b = false) :
    DT X W (.Compare a [op] [b] pos) (tbT (b2E f ma mb)) := pt_imp (pt_cmpR ho ha hb hm) fun σ H Q ⟨ρ, env, h, rl, p⟩ => by
  have q := PostG.bind (R := RD (kx X W)) rl p
  refine t_b2 hf (tG_mono q fun b H1 ⟨ρ1, h1, d, x1, r1, p1⟩ => ?_)
  cases d with
  | bl k => exact ⟨k, r1.1.bl, p1 ρ1 k H1 x1.at.refl rfl⟩
  | _ => exact p1.elim
/-- an expression whose test is its value's truth -/
def plainTest : Expr → Bool
  | .UnaryOp .Not _ _ => false
  | .BoolOp _ _ _ => false
  | .IfExp _ _ _ _ => false
  | .Compare _ _ _ _ => false
  | _ => true
theorem plainTest_is {e : Expr} (h : plainTest e = true) (env : PySem.Env) (whole : Sem Value) : isTrue e env whole = (do let v ← whole; standAt e.pos; holding [v] (truthy v)) := by
  cases e with
  | UnaryOp op a pos => cases op <;> first | rfl | cases h
  | BoolOp _ _ _ => cases h
  | IfExp _ _ _ _ => cases h
  | Compare _ _ _ _ => cases h
  | _ => rfl
theorem dt_truth {a : Expr} {ma : EM} (ha : DE X W a ma) (hp : plainTest a = true) : DT X W a (trT ma) := pt_imp (pt_truth ha fun whole => plainTest_is hp _ whole) fun σ H Q ⟨ρ, env, h, rl, p⟩ => by
  refine tG_mono (PostG.bind (R := RD (kx X W)) rl p) fun b H1 ⟨ρ1, h1, d, x1, r1, p1⟩ => ?_
  cases e : truth d h1 with
  | none => rw [e] at p1; exact p1.elim
  | some k =>
    rw [e] at p1
    exact ⟨k, truth_is x1.at e r1, p1 ρ1 k H1 x1.at.refl rfl⟩
theorem dt_not {a : Expr} {t : TM} {pos : Pos} (ha : DT X W a t) : DT X W (.UnaryOp .Not a pos) (notT t) := pt_imp (pt_not ha) fun σ H Q ⟨ρ, env, h, rl, p⟩ => by
  refine tG_mono (PostG.bind (R := RB) rl p) fun b H1 ⟨ρ1, h1, d, x1, r1, p1⟩ => ?_
  have e : d = b := r1
  subst e
  exact p1 ρ1 _ H1 x1.at.refl rfl
/-- and, or as tests -/
abbrev DW (X : Cx) (W : WJ) (e : Expr) (m : TM) : Prop := PW X e (tT (kx X W) W m)
theorem dw_and1 {a : Expr} {t : TM} {pos : Pos} (ha : DT X W a t) : DW X W (.BoolOp .And [a] pos) t := pw_and1 ha
theorem dw_or1 {a : Expr} {t : TM} {pos : Pos} (ha : DT X W a t) : DW X W (.BoolOp .Or [a] pos) t := pw_or1 ha
theorem dw_and {a b : Expr} {rest : List Expr} {t u : TM} {pos : Pos} (ha : DT X W a t) (hb : DW X W (.BoolOp .And (b :: rest) pos) u) : DW X W (.BoolOp .And (a :: b :: rest) pos) (andT t u) := pw_imp (pw_and ha hb) fun σ H Q ⟨ρ, env, h, rl, p⟩ => by
  refine tG_mono (PostG.bind (R := RB) rl p) fun b H1 ⟨ρ1, h1, d, x1, r1, p1⟩ => ?_
  have e : d = b := r1
  subst e
  cases d with
  | true => exact ⟨ρ1, env, h1, rl.ext x1, p1⟩
  | false => exact p1 ρ1 _ H1 x1.at.refl rfl
theorem dw_or {a b : Expr} {rest : List Expr} {t u : TM} {pos : Pos} (ha : DT X W a t) (hb : DW X W (.BoolOp .Or (b :: rest) pos) u) : DW X W (.BoolOp .Or (a :: b :: rest) pos) (orT t u) := pw_imp (pw_or ha hb) fun σ H Q ⟨ρ, env, h, rl, p⟩ => by
  refine tG_mono (PostG.bind (R := RB) rl p) fun b H1 ⟨ρ1, h1, d, x1, r1, p1⟩ => ?_
  have e : d = b := r1
  subst e
  cases d with
  | true => exact p1 ρ1 _ H1 x1.at.refl rfl
  | false => exact ⟨ρ1, env, h1, rl.ext x1, p1⟩
/-! ### and, or, not, if as values -/
def andE (a b : EM) : EM := fun e h => (a e h).bind fun d h1 => match truth d h1 with
  | some true => b e h1
  | some false => .ok d h1
  | none => .stuck
def orE (a b : EM) : EM := fun e h => (a e h).bind fun d h1 => match truth d h1 with
  | some true => .ok d h1
  | some false => b e h1
  | none => .stuck
def notF (d : D) (h : PH) : Res D := match truth d h with
  | some b => .ok (.bl (!b)) h
  | none => .stuck
theorem de_one {op : BoolOp} {a : Expr} {m : EM} {pos : Pos} (ha : DE X W a m) : DE X W (.BoolOp op [a] pos) m := pe_one ha
theorem de_and {a b : Expr} {rest : List Expr} {m n : EM} {pos : Pos} (ha : DE X W a m) (hb : DE X W (.BoolOp .And (b :: rest) pos) n) : DE X W (.BoolOp .And (a :: b :: rest) pos) (andE m n) := pe_imp (pe_andT ha hb) fun σ H Q ⟨ρ, env, h, rl, p⟩ => by
  refine tG_mono (PostG.bind (R := RD (kx X W)) rl p) fun b H1 ⟨ρ1, h1, d, x1, r1, p1⟩ => ?_
  cases e : truth d h1 with
  | none => rw [e] at p1; exact p1.elim
  | some k =>
    rw [e] at p1
    refine ⟨k, truth_is x1.at e r1, ?_⟩
    cases k with
    | true => exact iteT ⟨ρ1, env, h1, rl.ext x1, p1⟩
    | false => exact iteF (p1 ρ1 _ H1 x1.at.refl r1)
theorem de_or {a b : Expr} {rest : List Expr} {m n : EM} {pos : Pos} (ha : DE X W a m) (hb : DE X W (.BoolOp .Or (b :: rest) pos) n) : DE X W (.BoolOp .Or (a :: b :: rest) pos) (orE m n) := pe_imp (pe_orT ha hb) fun σ H Q ⟨ρ, env, h, rl, p⟩ => by
  refine tG_mono (PostG.bind (R := RD (kx X W)) rl p) fun b H1 ⟨ρ1, h1, d, x1, r1, p1⟩ => ?_
  cases e : truth d h1 with
  | none => rw [e] at p1; exact p1.elim
  | some k =>
    rw [e] at p1
    refine ⟨k, truth_is x1.at e r1, ?_⟩
    cases k with
    | true => exact iteT (p1 ρ1 _ H1 x1.at.refl r1)
    | false => exact iteF ⟨ρ1, env, h1, rl.ext x1, p1⟩
theorem de_not {a : Expr} {m : EM} {pos : Pos} (ha : DE X W a m) : DE X W (.UnaryOp .Not a pos) (u1E notF m) := pe_imp (pe_notT ha) fun σ H Q ⟨ρ, env, h, rl, p⟩ => by
  refine tG_mono (PostG.bind (R := RD (kx X W)) rl p) fun b H1 ⟨ρ1, h1, d, x1, r1, p1⟩ => ?_
  have p1 : PostG (kx X W) W (RD (kx X W)) σ Q ρ1 H1 (match truth d h1 with | some b => .ok (.bl (!b)) h1 | none => .stuck) := p1
  cases e : truth d h1 with
  | none => rw [e] at p1; exact p1.elim
  | some k =>
    rw [e] at p1
    exact ⟨k, truth_is x1.at e r1, p1 ρ1 _ H1 x1.at.refl is_bl⟩
def ifE (t : TM) (a b : EM) : EM := fun e h => (t e h).bind fun c h1 => match c with
  | true => a e h1
  | false => b e h1
theorem de_if {c a b : Expr} {t : TM} {m n : EM} {pos : Pos} (hc : DT X W c t) (ha : DE X W a m) (hb : DE X W b n) : DE X W (.IfExp c a b pos) (ifE t m n) := pe_imp (pe_ifExp hc ha hb) fun σ H Q ⟨ρ, env, h, rl, p⟩ => by
  refine tG_mono (PostG.bind (R := RB) rl p) fun b H1 ⟨ρ1, h1, d, x1, r1, p1⟩ => ?_
  have e : d = b := r1
  subst e
  cases d with
  | true => exact iteT ⟨ρ1, env, h1, rl.ext x1, p1⟩
  | false => exact iteF ⟨ρ1, env, h1, rl.ext x1, p1⟩
/-! ### a < b < c -/
def chE (f g : D → D → PH → Res D) (a b c : EM) : EM := fun e h => (a e h).bind fun x h1 => (b e h1).bind fun y h2 => (f x y h2).bind fun z h3 => match z with
  | .bl true => (c e h3).bind fun w h4 => g y w h4
  | .bl false => .ok (.bl false) h3
  | _ => .stuck
/-- as Op2, the operation is a step of more -/
theorem Op2.step {K : KX} {f : D → D → PH → Res D} {r : R2} (hf : Op2 K W f r) {σ : L2.St} {ρ : List Addr} {h : PH} {H : Hp} {d e : D} {x y : V} {Q : VK} (at_ : At K ρ h H) (rx : RD K ρ H h.cs.length d x) (ry : RD K ρ H h.cs.length e y)
    {k : D → PH → Res D} (p : PostG K W (RD K) σ Q ρ H ((f d e h).bind k)) : r x y H fun z H1 => ∃ ρ1 h1 a, Ext K ρ H h1 ρ1 H1 ∧ RD K ρ1 H1 h1.cs.length a z ∧ PostG K W (RD K) σ Q ρ1 H1 (k a h1) := by
  refine hf σ ρ h H d e x y _ at_ rx ry ?_
  cases q : f d e h with
  | stuck => rw [q] at p; exact p
  | exc c h1 => rw [q] at p; exact p
  | ok a h1 =>
    rw [q] at p
    exact fun ρ' b H' x rb => ⟨ρ', h1, a, x, rb, p.shift x⟩
theorem t_ch {K : KX} {f g : D → D → PH → Res D} {r r' : R2} (hf : Op2 K W f r) (hg : Op2 K W g r') {ma mb mc : EM} {σ : L2.St} {H : Hp} {Q : VK} (t : tE K W (chE f g ma mb mc) σ H Q) :
    tE K W ma σ H fun x H1 => tE K W mb σ H1 fun y H2 => r x y H2 fun z H3 => ∃ k, z = .bl k ∧ if k = true then tE K W mc σ H3 (fun w H4 => r' y w H4 Q) else Q (.bl false) H3 := by
  obtain ⟨ρ, env, h, rl, p⟩ := t
  refine tG_mono (PostG.bind (R := RD K) rl p) fun b H1 ⟨ρ1, h1, a1, x1, ra1, p1⟩ => ?_
  have rl1 := rl.ext x1
  refine tG_mono (PostG.bind (R := RD K) rl1 p1) fun b2 H2 ⟨ρ2, h2, a2, x2, ra2, p2⟩ => ?_
  have rl2 := rl1.ext x2
  have q := hf.step x2.at (ra1.ext x2 rl1.len) ra2 p2
  refine hf σ ρ2 h2 H2 a1 a2 b b2 _ x2.at (ra1.ext x2 rl1.len) ra2 ?_
  cases q3 : f a1 a2 h2 with
  | stuck => rw [q3] at p2; exact p2
  | exc c h4 => rw [q3] at p2; exact p2
  | ok a3 h3 =>
    rw [q3] at p2
    intro ρ3 z H3 x3 rz
    have p3 := p2.shift x3
    have rl3 := rl2.ext x3
    dsimp only [Res.bind] at p3
    split at p3
    · refine ⟨true, rz.1.bl, iteT ?_⟩
      refine tG_mono (PostG.bind (R := RD K) rl3 p3) fun b4 H4 ⟨ρ4, h4, a4, x4, ra4, p4⟩ => ?_
      exact hg σ ρ4 h4 H4 a2 a4 b2 b4 Q x4.at ((ra2.ext x3 rl2.len).ext x4 rl3.len) ra4 p4
    · exact ⟨false, rz.1.bl, iteF (p3 ρ3 _ H3 x3.at.refl is_bl)⟩
    · exact p3.elim
theorem de_ch {a b c : Expr} {op op' : CmpOp} {pos : Pos} {ma mb mc : EM} {f g : D → D → PH → Res D} {r r' : R2} (ho : OpR X (compareOp op) r) (ho' : OpR X (compareOp op') r') (hf : Op2 (kx X W) W f r) (hg : Op2 (kx X W) W g r')
    (ha : DE X W a ma) (hb : DE X W b mb) (hc : DE X W c mc) (h1 : behindInMarks op' c = false) : DE X W (.Compare a [op, op'] [b, c] pos) (chE f g ma mb mc) :=
  pe_imp (pe_chain ho ho' ha hb hc h1) fun σ H Q t => t_ch hf hg t
theorem dt_ch {a b c : Expr} {op op' : CmpOp} {pos : Pos} {ma mb mc : EM} {f g : D → D → PH → Res D} {r r' : R2} (ho : OpR X (compareOp op) r) (ho' : OpR X (compareOp op') r') (hf : Op2 (kx X W) W f r) (hg : Op2 (kx X W) W g r')
    (ha : DE X W a ma) (hb : DE X W b mb) (hc : DE X W c mc) (h1 : behindInMarks op' c = false) : DT X W (.Compare a [op, op'] [b, c] pos) (tbT (chE f g ma mb mc)) :=
  pt_imp (pt_chain ho ho' ha hb hc h1) fun σ H Q ⟨ρ, env, h, rl, p⟩ => by
    have q := PostG.bind (R := RD (kx X W)) rl p
    refine t_ch hf hg (tG_mono q fun b H1 ⟨ρ1, h1, d, x1, r1, p1⟩ => ?_)
    cases d with
    | bl k => exact ⟨k, r1.1.bl, p1 ρ1 k H1 x1.at.refl rfl⟩
    | _ => exact p1.elim
/-! ### a < b < c < d -/
def tChain3 (r r' r2 : R2) (ta tb tc td : TE) : TE := fun σ H Q => ta σ H fun x H1 => tb σ H1 fun y H2 => r x y H2 fun z H3 => ∃ k, z = .bl k ∧
  (if k = true then tc σ H3 (fun w H4 => r' y w H4 fun z2 H5 => ∃ k2, z2 = .bl k2 ∧ (if k2 = true then td σ H5 (fun u H6 => r2 w u H6 Q) else Q (.bl false) H5)) else Q (.bl false) H3)
theorem pe_chain3 {a b c d : Expr} {ta tb tc td : TE} {pos : Pos} {op op' op2 : CmpOp} {r r' r2 : R2} (ho : OpR X (compareOp op) r) (ho' : OpR X (compareOp op') r') (ho2 : OpR X (compareOp op2) r2) (ha : PE X a ta) (hb : PE X b tb) (hc : PE X c tc) (hd : PE X d td)
    (hm : lastMarks [op, op', op2] [b, c, d] = false := by with_unfolding_all rfl) : PE X (.Compare a [op, op', op2] [b, c, d] pos) (tChain3 r r' r2 ta tb tc td) := by
  refine ⟨fun pins s σ H Q I h => ?_⟩
  refine Compare_chain (thn (ha.run pins s σ H _ I h) fun v s1 ⟨x, H1, I1, r1, q1⟩ => chain_link (thn (hb.run pins s1 σ H1 _ I1 q1) fun u s2 ⟨y, H2, I2, rr2, q2⟩ =>
    thn (ho pins s2 σ H2 x y v u _ I2 r1 rr2 q2) fun d s3 ⟨z, H3, I3, r3, k, e, q3⟩ => ?_)) hm
  subst e
  cases r3
  refine wpAny_truthy_bool ?_
  cases k with
  | false => exact ite_ff ⟨.bl false, H3, I3, rfl, q3⟩
  | true =>
    refine ite_tt (chain_link (thn (hc.run pins s3 σ H3 _ I3 q3) fun w' s4 ⟨z', H4, I4, r4, q4⟩ => thn (ho' pins s4 σ H4 y z' u w' _ I4 rr2 r4 q4) fun d' s5 ⟨z2, H5, I5, r5, k2, e2, q5⟩ => ?_))
    subst e2
    cases r5
    refine wpAny_truthy_bool ?_
    cases k2 with
    | false => exact ite_ff ⟨.bl false, H5, I5, rfl, q5⟩
    | true => exact ite_tt (chain_last (thn (hd.run pins s5 σ H5 _ I5 q5) fun w2 s6 ⟨z6, H6, I6, r6, q6⟩ => ho2 pins s6 σ H6 z' z6 w' w2 Q I6 r4 r6 q6))
theorem pt_chain3 {a b c d : Expr} {ta tb tc td : TE} {pos : Pos} {op op' op2 : CmpOp} {r r' r2 : R2} (ho : OpR X (compareOp op) r) (ho' : OpR X (compareOp op') r') (ho2 : OpR X (compareOp op2) r2) (ha : PE X a ta) (hb : PE X b tb) (hc : PE X c tc) (hd : PE X d td)
    (hm : lastMarks [op, op', op2] [b, c, d] = false := by with_unfolding_all rfl) : PT X (.Compare a [op, op', op2] [b, c, d] pos) (tTest (tChain3 r r' r2 ta tb tc td)) := by
  refine ⟨fun pins s σ H Q I h => ?_⟩
  refine isTrue_chain (thn (ha.run pins s σ H _ I h) fun v s1 ⟨x, H1, I1, r1, q1⟩ => test_link (thn (hb.run pins s1 σ H1 _ I1 q1) fun u s2 ⟨y, H2, I2, rr2, q2⟩ =>
    thn (ho pins s2 σ H2 x y v u _ I2 r1 rr2 q2) fun d s3 ⟨z, H3, I3, r3, k, e, q3⟩ => ?_)) hm
  subst e
  cases r3
  refine wpAny_truthy_bool ?_
  cases k with
  | false =>
    obtain ⟨k', e', q'⟩ := q3
    cases e'
    exact ite_ff ⟨H3, I3, q'⟩
  | true =>
    refine ite_tt (test_link (thn (hc.run pins s3 σ H3 _ I3 q3) fun w' s4 ⟨z', H4, I4, r4, q4⟩ => thn (ho' pins s4 σ H4 y z' u w' _ I4 rr2 r4 q4) fun d' s5 ⟨z2, H5, I5, r5, k2, e2, q5⟩ => ?_))
    subst e2
    cases r5
    refine wpAny_truthy_bool ?_
    cases k2 with
    | false =>
      obtain ⟨k', e', q'⟩ := q5
      cases e'
      exact ite_ff ⟨H5, I5, q'⟩
    | true =>
      refine ite_tt (test_last (thn (hd.run pins s5 σ H5 _ I5 q5) fun w2 s6 ⟨z6, H6, I6, r6, q6⟩ => thn (ho2 pins s6 σ H6 z' z6 w' w2 _ I6 r4 r6 q6) fun d7 s7 ⟨z7, H7, I7, r7, k7, e7, q7⟩ => ?_))
      subst e7
      cases r7
      exact wpAny_truthy_bool ⟨H7, I7, q7⟩
def ch3E (f g k : D → D → PH → Res D) (a b c d : EM) : EM := fun e h => (a e h).bind fun x h1 => (b e h1).bind fun y h2 => (f x y h2).bind fun z h3 => match z with
  | .bl true => (c e h3).bind fun w h4 => (g y w h4).bind fun z2 h5 => (match z2 with
    | .bl true => (d e h5).bind fun u h6 => k w u h6
    | .bl false => .ok (.bl false) h5
    | _ => .stuck)
  | .bl false => .ok (.bl false) h3
  | _ => .stuck
theorem t_ch3 {K : KX} {f g k2 : D → D → PH → Res D} {r r' r2 : R2} (hf : Op2 K W f r) (hg : Op2 K W g r') (hk : Op2 K W k2 r2) {ma mb mc md : EM} {σ : L2.St} {H : Hp} {Q : VK} (t : tE K W (ch3E f g k2 ma mb mc md) σ H Q) :
    tChain3 r r' r2 (tE K W ma) (tE K W mb) (tE K W mc) (tE K W md) σ H Q := by
  obtain ⟨ρ, env, h, rl, p⟩ := t
  refine tG_mono (PostG.bind (R := RD K) rl p) fun b H1 ⟨ρ1, h1, a1, x1, ra1, p1⟩ => ?_
  have rl1 := rl.ext x1
  refine tG_mono (PostG.bind (R := RD K) rl1 p1) fun b2 H2 ⟨ρ2, h2, a2, x2, ra2, p2⟩ => ?_
  have rl2 := rl1.ext x2
  have q := hf.step x2.at (ra1.ext x2 rl1.len) ra2 p2
  refine hf σ ρ2 h2 H2 a1 a2 b b2 _ x2.at (ra1.ext x2 rl1.len) ra2 ?_
  cases q3 : f a1 a2 h2 with
  | stuck => rw [q3] at p2; exact p2
  | exc c h4 => rw [q3] at p2; exact p2
  | ok a3 h3 =>
    rw [q3] at p2
    intro ρ3 z H3 x3 rz
    have p3 := p2.shift x3
    have rl3 := rl2.ext x3
    dsimp only [Res.bind] at p3
    split at p3
    · refine ⟨true, rz.1.bl, iteT ?_⟩
      refine tG_mono (PostG.bind (R := RD K) rl3 p3) fun b4 H4 ⟨ρ4, h4, a4, x4, ra4, p4⟩ => ?_
      have rl4 := rl3.ext x4
      have ra2' := (ra2.ext x3 rl2.len).ext x4 rl3.len
      refine hg σ ρ4 h4 H4 a2 a4 b2 b4 _ x4.at ra2' ra4 ?_
      cases q5 : g a2 a4 h4 with
      | stuck => rw [q5] at p4; exact p4
      | exc c h5 => rw [q5] at p4; exact p4
      | ok a5 h5 =>
        rw [q5] at p4
        intro ρ5 z5 H5 x5 rz5
        have p5 := p4.shift x5
        have rl5 := rl4.ext x5
        dsimp only [Res.bind] at p5
        split at p5
        · refine ⟨true, rz5.1.bl, iteT ?_⟩
          refine tG_mono (PostG.bind (R := RD K) rl5 p5) fun b6 H6 ⟨ρ6, h6, a6, x6, ra6, p6⟩ => ?_
          exact hk σ ρ6 h6 H6 a4 a6 b4 b6 Q x6.at ((ra4.ext x5 rl4.len).ext x6 rl5.len) ra6 p6
        · exact ⟨false, rz5.1.bl, iteF (p5 ρ5 _ H5 x5.at.refl is_bl)⟩
        · exact p5.elim
    · exact ⟨false, rz.1.bl, iteF (p3 ρ3 _ H3 x3.at.refl is_bl)⟩
    · exact p3.elim
theorem de_ch3 {a b c d : Expr} {op op' op2 : CmpOp} {pos : Pos} {ma mb mc md : EM} {f g k : D → D → PH → Res D} {r r' r2 : R2} (ho : OpR X (compareOp op) r) (ho' : OpR X (compareOp op') r') (ho2 : OpR X (compareOp op2) r2) (hf : Op2 (kx X W) W f r) (hg : Op2 (kx X W) W g r') (hk : Op2 (kx X W) W k r2)
    (ha : DE X W a ma) (hb : DE X W b mb) (hc : DE X W c mc) (hd : DE X W d md) (h1 : behindInMarks op2 d = false) : DE X W (.Compare a [op, op', op2] [b, c, d] pos) (ch3E f g k ma mb mc md) :=
  pe_imp (pe_chain3 ho ho' ho2 ha hb hc hd h1) fun σ H Q t => t_ch3 hf hg hk t
theorem dt_ch3 {a b c d : Expr} {op op' op2 : CmpOp} {pos : Pos} {ma mb mc md : EM} {f g k : D → D → PH → Res D} {r r' r2 : R2} (ho : OpR X (compareOp op) r) (ho' : OpR X (compareOp op') r') (ho2 : OpR X (compareOp op2) r2) (hf : Op2 (kx X W) W f r) (hg : Op2 (kx X W) W g r') (hk : Op2 (kx X W) W k r2)
    (ha : DE X W a ma) (hb : DE X W b mb) (hc : DE X W c mc) (hd : DE X W d md) (h1 : behindInMarks op2 d = false) : DT X W (.Compare a [op, op', op2] [b, c, d] pos) (tbT (ch3E f g k ma mb mc md)) :=
  pt_imp (pt_chain3 ho ho' ho2 ha hb hc hd h1) fun σ H Q ⟨ρ, env, h, rl, p⟩ => by
    have q := PostG.bind (R := RD (kx X W)) rl p
    refine t_ch3 hf hg hk (tG_mono q fun b H1 ⟨ρ1, h1, d, x1, r1, p1⟩ => ?_)
    cases d with
    | bl k => exact ⟨k, r1.1.bl, p1 ρ1 k H1 x1.at.refl rfl⟩
    | _ => exact p1.elim
/-! ### subscripts, slices -/
def isSlice : Expr → Bool
  | .Slice _ _ _ _ => true
  | _ => false
theorem plainIx_of {e : Expr} (h : isSlice e = false) : PlainIx e := fun o i => by
  cases e <;> first | rfl | cases h
theorem de_ix {a i : Expr} {m n : EM} {pos : Pos} (hs : isSlice i = false) (ha : DE X W a m) (hi : DE X W i n) : DE X W (.Subscript a i pos) (b2E ixF m n) := pe_imp (pe_ix ix_seq ha hi (plainIx_of hs)) fun σ H Q t => t_b2 o_ix t
end
end Dy

/-! Slices, calls of built-ins, methods of lists and texts, calls of defs. -/
namespace Dy
open PySem PySem.Spec PyProof.Rows L2
/-! ### slices -/
abbrev OM := Env → PH → Res (Option Int)
def RO : List Addr → Hp → Nat → Option Int → Option Int → Prop := fun _ _ _ a b => a = b
abbrev DO (X : Cx) (W : WJ) (e : Option Expr) (m : OM) : Prop := PO X e (tG (kx X W) W RO m)
def noO : OM := fun _ h => .ok none h
def someO (m : EM) : OM := fun e h => (m e h).bind fun d h1 => match d with
  | .int i => .ok (some i) h1
  | _ => .stuck
section
variable {X : Cx} {W : WJ}
theorem po_imp {e : Option Expr} {t t' : TO} (h : PO X e t) (k : ∀ σ H Q, t' σ H Q → t σ H Q) : PO X e t' := ⟨fun pins s σ H Q I q => h.run pins s σ H Q I (k σ H Q q)⟩
theorem do_none : DO X W none noO := po_imp po_none fun σ H Q ⟨ρ, env, h, rl, p⟩ => p ρ none H rl.refl rfl
theorem do_some {e : Expr} {m : EM} (h : DE X W e m) : DO X W (some e) (someO m) := po_imp (po_some h) fun σ H Q ⟨ρ, env, h, rl, p⟩ => by
  refine tG_mono (PostG.bind (R := RD (kx X W)) rl p) fun b H1 ⟨ρ1, h1, d, x1, r1, p1⟩ => ?_
  cases d with
  | int i => exact ⟨i, r1.1.int, p1 ρ1 _ H1 x1.at.refl rfl⟩
  | _ => exact p1.elim
def slE (a : EM) (lo hi : OM) : EM := fun e h => (a e h).bind fun d h1 => (lo e h1).bind fun l h2 => (hi e h2).bind fun u h3 => slF d l u h3
theorem sl_all : SlR X (rSlAll (kx X W)) := sl_tupA.or (sl_str.or sl_list)
theorem de_sl {a : Expr} {lo hi : Option Expr} {m : EM} {l u : OM} {p2 pos : Pos} (ha : DE X W a m) (hl : DO X W lo l) (hu : DO X W hi u) : DE X W (.Subscript a (.Slice lo hi none p2) pos) (slE m l u) :=
  pe_imp (pe_slice sl_all ha hl hu) fun σ H Q ⟨ρ, env, h, rl, p⟩ => by
    refine tG_mono (PostG.bind (R := RD (kx X W)) rl p) fun b H1 ⟨ρ1, h1, d1, x1, r1, p1⟩ => ?_
    have rl1 := rl.ext x1
    refine tG_mono (PostG.bind (R := RO) rl1 p1) fun l' H2 ⟨ρ2, h2, d2, x2, r2, p2⟩ => ?_
    have rl2 := rl1.ext x2
    refine tG_mono (PostG.bind (R := RO) rl2 p2) fun u' H3 ⟨ρ3, h3, d3, x3, r3, p3⟩ => ?_
    have e2 : d2 = l' := r2
    have e3 : d3 = u' := r3
    subst e2; subst e3
    exact o_sl x3.at ((r1.ext x2 rl1.len).ext x3 rl2.len) p3
/-- xs[::-1] -/
def revF (d : D) (h : PH) : Res D := match itemsL h d with
  | some ds => newL ds.reverse h
  | none => .stuck
theorem IsL.rev {K : KX} {ρ : List Addr} {H : Hp} : ∀ {ds : List D} {xs : List V}, IsL K ρ H ds xs → IsL K ρ H ds.reverse xs.reverse
  | [], xs, h => by rw [h.nil]; show IsL K ρ H [] []; unfold IsL; rfl
  | d :: ds, xs, h => by
    unfold IsL at h
    obtain ⟨x, r, rfl, h1, h2⟩ := h
    rw [List.reverse_cons, List.reverse_cons]
    refine (IsL.rev h2).append ?_
    unfold IsL
    exact ⟨x, [], rfl, h1, by unfold IsL; rfl⟩
theorem mrL_rev : ∀ {ds : List D}, mrL ds.reverse = mrL ds
  | [] => rfl
  | d :: ds => by
    rw [List.reverse_cons, mrL_append, mrL_rev]
    show max (mrL ds) (max d.mr 0) = max d.mr (mrL ds)
    omega
theorem de_rev {e : Expr} {m : EM} {k : Nat} {p1 p2 p3 pos : Pos} (ha : DE X W e m) : DE X W (.Subscript e (.Slice none none (some (.UnaryOp .USub (.Constant (.int 1) k p1) p2)) p3) pos) (u1E revF m) :=
  pe_imp (pe_revL ha) fun σ H Q t => by
    refine t_u1 (r := fun x H1 Q => ∃ a xs, x = .ref a ∧ SqL (kx X W) H1 a xs ∧ ∀ p, H1 p = none → Q (.ref p) (upd H1 p (.lst xs.reverse))) ?_ t
    intro σ ρ h H d x Q at_ rx p
    unfold revF at p
    split at p
    · rename_i ds q
      obtain ⟨a, xs, rfl, s, i, l⟩ := itemsL_is at_ q rx
      refine ⟨a, xs, rfl, s, fun q hq => ?_⟩
      obtain ⟨ρ', e1, e2⟩ := push_lst at_ i.rev (by rw [mrL_rev]; exact l) hq
      exact p ρ' _ _ e1 e2
    · exact p.elim

/-! ### built-ins -/
variable {K : KX}
/-- f upon one argument, two -/
def f1 (f : D → PH → Res D) : List D → PH → Res D := fun ds h => match ds with
  | [d] => f d h
  | _ => .stuck
def f2 (f : D → D → PH → Res D) : List D → PH → Res D := fun ds h => match ds with
  | [d, e] => f d e h
  | _ => .stuck
theorem opn_1 {f : D → PH → Res D} {r : V → Hp → VK → Prop} (h : Op1 K W f r) : OpN K W (f1 f) (fun xs H Q => ∃ x, xs = [x] ∧ r x H Q) := by
  intro σ ρ h' H ds xs Q at_ rl p
  unfold f1 at p
  split at p
  · rename_i d
    have i := rl.1
    unfold IsL at i
    obtain ⟨x, r, rfl, i1, i2⟩ := i
    rw [i2.nil]
    have l : mrL [d] ≤ h'.cs.length := rl.2
    unfold mrL at l
    exact ⟨x, rfl, h σ ρ h' H d x Q at_ ⟨i1, by omega⟩ p⟩
  · exact p.elim
theorem opn_2 {f : D → D → PH → Res D} {r : R2} (h : Op2 K W f r) : OpN K W (f2 f) (fun xs H Q => ∃ x y, xs = [x, y] ∧ r x y H Q) := by
  intro σ ρ h' H ds xs Q at_ rl p
  unfold f2 at p
  split at p
  · rename_i d e
    have i := rl.1
    unfold IsL at i
    obtain ⟨x, r, rfl, i1, i2⟩ := i
    unfold IsL at i2
    obtain ⟨y, r2, rfl, i3, i4⟩ := i2
    rw [i4.nil]
    have l : mrL [d, e] ≤ h'.cs.length := rl.2
    unfold mrL at l
    unfold mrL at l
    exact ⟨x, y, rfl, h σ ρ h' H d e x y Q at_ ⟨i1, by omega⟩ ⟨i3, by omega⟩ p⟩
  · exact p.elim
/-- a call of a built-in by its name -/
theorem de_callB {x : Str} {id : String} {p pos : Pos} {e : Expr} {es : List Expr} {m : AM} {f : List D → PH → Res D} {r : List V → Hp → VK → Prop} (hc : CallR X (.builtin id) r) (hf : OpN (kx X W) W f r) (hg : Gl X x) (hm : X.mg x = none)
    (hv : bootBuiltins x = some (.builtin id)) (ha : DA X W (e :: es) m) (hn : x ≠ "__name__" := by decide) (hdb : (x == ("__debug__" : Str)) = false := by decide)
    (he : starEach (e :: es) X.env = (false, eval e X.env) :: starEach es X.env) (hpl : (backTo pos (starEach es X.env)).any (·.1) = false) : DE X W (.Call (.Name x p) (e :: es) [] pos) (nA f m) :=
  pe_imp (pe_callB hc hg hm hv ha hn hdb he hpl) fun σ H Q t => t_nA hf t
theorem de_callTy {x : Str} {T : String} {p pos : Pos} {e : Expr} {es : List Expr} {m : AM} {f : List D → PH → Res D} {r : List V → Hp → VK → Prop} (hc : CallR X (.type T) r) (hf : OpN (kx X W) W f r) (hg : Gl X x) (hm : X.mg x = none)
    (hv : bootBuiltins x = some (.type T)) (ha : DA X W (e :: es) m) (hn : x ≠ "__name__" := by decide) (hdb : (x == ("__debug__" : Str)) = false := by decide)
    (he : starEach (e :: es) X.env = (false, eval e X.env) :: starEach es X.env) (hpl : (backTo pos (starEach es X.env)).any (·.1) = false) : DE X W (.Call (.Name x p) (e :: es) [] pos) (nA f m) :=
  pe_imp (pe_callTy hc hg hm hv ha hn hdb he hpl) fun σ H Q t => t_nA hf t
/-- no argument is starred -/
def noStars : List Expr → Bool
  | [] => true
  | e :: es => !isStar e && noStars es
theorem noStars_any : ∀ {es : List Expr} (h : noStars es = true) (pos : Pos) (env : PySem.Env), (backTo pos (starEach es env)).any (·.1) = false
  | [], _, _, _ => rfl
  | e :: es, h, pos, env => by
    unfold noStars at h
    rw [Bool.and_eq_true] at h
    have h1 : isStar e = false := by have := h.1; cases q : isStar e <;> simp_all
    rw [star_no h1 es env]
    show (false || (backTo pos (starEach es env)).any (·.1)) = false
    rw [noStars_any h.2 pos env]; rfl
theorem noStars_head {e : Expr} {es : List Expr} (h : noStars (e :: es) = true) : isStar e = false ∧ noStars es = true := by
  unfold noStars at h
  rw [Bool.and_eq_true] at h
  exact ⟨by have := h.1; cases q : isStar e <;> simp_all, h.2⟩

/-! len -/
def lenF (d : D) (h : PH) : Res D := match d with
  | .str z => if z.length ≤ 16777216 then .ok (.int z.length) h else .stuck
  | d => (match itemsS h d with
    | some ds => .ok (.int ds.length) h
    | none => .stuck)
theorem o_len : Op1 K W lenF (fun x H Q => (∃ p ys, x = .ref p ∧ (SqL K H p ys ∨ SqT K H p ys) ∧ Q (.int ys.length) H) ∨ ∃ z, x = .str z ∧ z.length ≤ sizeLine ∧ Q (.int z.length) H) := by
  intro σ ρ h H d x Q at_ rx p
  unfold lenF at p
  split at p
  · split at p
    · rename_i z hz
      exact .inr ⟨z, rx.1.str, by rw [sizeLine_eq]; exact hz, p ρ _ H at_.refl is_int⟩
    · exact p.elim
  · split at p
    · rename_i ds q
      obtain ⟨a, xs, rfl, s, i, l⟩ := itemsS_is at_ q rx
      have fin := p ρ _ H at_.refl is_int
      rw [← i.length] at fin
      exact .inl ⟨a, xs, rfl, s, fin⟩
    · exact p.elim
theorem c_len : CallR X (.builtin "len") (fun xs H Q => ∃ x, xs = [x] ∧ ((∃ p ys, x = .ref p ∧ (SqL (kx X W) H p ys ∨ SqT (kx X W) H p ys) ∧ Q (.int ys.length) H) ∨ ∃ z, x = .str z ∧ z.length ≤ sizeLine ∧ Q (.int z.length) H)) := by
  intro pins s σ H xs us Q I r h
  obtain ⟨x, rfl, h⟩ := h
  rcases h with ⟨p, ys, rfl, s', q⟩ | ⟨z, rfl, hz, q⟩
  · exact call_len_seq pins s σ H _ us Q I r ⟨p, ys, rfl, s', q⟩
  · exact call_len_str pins s σ H _ us Q I r ⟨z, rfl, hz, q⟩
/-! abs, max, min of two, int, bool, str, ord -/
def absF (d : D) (h : PH) : Res D := match d with
  | .int i => .ok (.int (if i < 0 then -i else i)) h
  | _ => .stuck
theorem c_abs : CallR X (.builtin "abs") (fun xs H Q => ∃ x, xs = [x] ∧ ∃ i, x = .int i ∧ Q (.int (if i < 0 then -i else i)) H) := by
  intro pins s σ H xs us Q I r h
  obtain ⟨x, rfl, i, rfl, q⟩ := h
  exact call_abs pins s σ H _ us Q I r ⟨i, rfl, q⟩
theorem o_abs : Op1 K W absF (fun x H Q => ∃ i, x = .int i ∧ Q (.int (if i < 0 then -i else i)) H) := by
  intro σ ρ h H d x Q at_ rx p
  unfold absF at p
  split at p
  · exact ⟨_, rx.1.int, p ρ _ H at_.refl is_int⟩
  · exact p.elim
def max2F : D → D → PH → Res D := stepI fun i j => some (.int (if j > i then j else i))
def min2F : D → D → PH → Res D := stepI fun i j => some (.int (if j < i then j else i))
theorem o_max2 : Op2 K W max2F (rI0 fun i j => .int (if j > i then j else i)) := op2_int0 fun i j d q _ _ _ => by cases q; exact is_int
theorem o_min2 : Op2 K W min2F (rI0 fun i j => .int (if j < i then j else i)) := op2_int0 fun i j d q _ _ _ => by cases q; exact is_int
theorem c_max2 (hc : X.calm = true) : CallR X (.builtin "max") (fun xs H Q => ∃ x y, xs = [x, y] ∧ (rI0 fun i j => .int (if j > i then j else i)) x y H Q) := by
  intro pins s σ H xs us Q I r h
  obtain ⟨x, y, rfl, i, j, rfl, rfl, q⟩ := h
  exact call_max2 hc pins s σ H _ us Q I r ⟨i, j, rfl, q⟩
theorem c_min2 (hc : X.calm = true) : CallR X (.builtin "min") (fun xs H Q => ∃ x y, xs = [x, y] ∧ (rI0 fun i j => .int (if j < i then j else i)) x y H Q) := by
  intro pins s σ H xs us Q I r h
  obtain ⟨x, y, rfl, i, j, rfl, rfl, q⟩ := h
  exact call_min2 hc pins s σ H _ us Q I r ⟨i, j, rfl, q⟩
def intF (d : D) (h : PH) : Res D := match d with
  | .int i => .ok (.int i) h
  | .bl k => .ok (.int (if k then 1 else 0)) h
  | .str x => (match PySem.intText? x with
    | some n => if x.length ≤ 640 then .ok (.int n) h else .stuck
    | none => .stuck)
  | _ => .stuck
theorem o_int : Op1 K W intF (fun x H Q => (∃ i, x = .int i ∧ Q (.int i) H) ∨ (∃ k, x = .bl k ∧ Q (.int (if k then 1 else 0)) H) ∨ ∃ a n, x = .str a ∧ PySem.intText? a = some n ∧ a.length ≤ 640 ∧ Q (.int n) H) := by
  intro σ ρ h H d x Q at_ rx p
  unfold intF at p
  split at p
  · exact .inl ⟨_, rx.1.int, p ρ _ H at_.refl is_int⟩
  · exact .inr (.inl ⟨_, rx.1.bl, p ρ _ H at_.refl is_int⟩)
  · split at p
    · rename_i a n e
      split at p
      · rename_i c
        exact .inr (.inr ⟨_, n, rx.1.str, e, c, p ρ _ H at_.refl is_int⟩)
      · exact p.elim
    · exact p.elim
  · exact p.elim
theorem c_int : CallR X (.type "int") (fun xs H Q => ∃ x, xs = [x] ∧ ((∃ i, x = .int i ∧ Q (.int i) H) ∨ (∃ k, x = .bl k ∧ Q (.int (if k then 1 else 0)) H) ∨ ∃ a n, x = .str a ∧ PySem.intText? a = some n ∧ a.length ≤ 640 ∧ Q (.int n) H)) := by
  intro pins s σ H xs us Q I r h
  obtain ⟨x, rfl, h⟩ := h
  rcases h with ⟨i, rfl, q⟩ | ⟨i, rfl, q⟩ | ⟨a, n, rfl, h1, h2, q⟩
  · exact call_int1 pins s σ H _ us Q I r (.inl ⟨i, rfl, q⟩)
  · exact call_int1 pins s σ H _ us Q I r (.inr ⟨i, rfl, q⟩)
  · exact call_int_str pins s σ H _ us Q I r ⟨a, n, rfl, h1, h2, q⟩
def ordF (d : D) (h : PH) : Res D := match d with
  | .str x => if x.length = 1 then .ok (.int (x.cps.getD 0 0 : Nat)) h else .stuck
  | _ => .stuck
theorem o_ord : Op1 K W ordF (fun x H Q => ∃ a, x = .str a ∧ a.length = 1 ∧ Q (.int (a.cps.getD 0 0 : Nat)) H) := by
  intro σ ρ h H d x Q at_ rx p
  unfold ordF at p
  split at p
  · split at p
    · rename_i c
      exact ⟨_, rx.1.str, c, p ρ _ H at_.refl is_int⟩
    · exact p.elim
  · exact p.elim
theorem c_ord : CallR X (.builtin "ord") (fun xs H Q => ∃ x, xs = [x] ∧ ∃ a, x = .str a ∧ a.length = 1 ∧ Q (.int (a.cps.getD 0 0 : Nat)) H) := by
  intro pins s σ H xs us Q I r h
  obtain ⟨x, rfl, a, rfl, c, q⟩ := h
  exact call_ord pins s σ H _ us Q I r ⟨a, rfl, c, q⟩
/-! fields of an f-string -/
def fmtF (d : D) (h : PH) : Res D := match d with
  | .int i => if i.natAbs.log2 < 1920 then .ok (.str (toString i)) h else .stuck
  | .str y => if y.length ≤ 16777216 then .ok (.str y) h else .stuck
  | _ => .stuck
theorem o_fmt : Op1 K W fmtF (fun x H Q => (∃ y : Str, x = .str y ∧ y.length ≤ sizeLine ∧ Q (.str y) H) ∨ ∃ i : Int, x = .int i ∧ i.natAbs.log2 < 1920 ∧ Q (.str (toString i)) H) := by
  intro σ ρ h H d x Q at_ rx p
  unfold fmtF at p
  split at p
  · split at p
    · rename_i i c
      exact .inr ⟨_, rx.1.int, c, p ρ _ H at_.refl is_str⟩
    · exact p.elim
  · split at p
    · rename_i c
      exact .inl ⟨_, rx.1.str, by rw [sizeLine_eq]; exact c, p ρ _ H at_.refl is_str⟩
    · exact p.elim
  · exact p.elim
def strF (d : D) (h : PH) : Res D := match d with
  | .int i => if i.natAbs.log2 < 1920 then .ok (.str (toString i)) h else .stuck
  | _ => .stuck
theorem o_str : Op1 K W strF (fun x H Q => ∃ i, x = .int i ∧ i.natAbs.log2 < 1920 ∧ Q (.str (toString i)) H) := by
  intro σ ρ h H d x Q at_ rx p
  unfold strF at p
  split at p
  · split at p
    · rename_i i c
      exact ⟨_, rx.1.int, c, p ρ _ H at_.refl is_str⟩
    · exact p.elim
  · exact p.elim
theorem c_str : CallR X (.type "str") (fun xs H Q => ∃ x, xs = [x] ∧ ∃ i, x = .int i ∧ i.natAbs.log2 < 1920 ∧ Q (.str (toString i)) H) := by
  intro pins s σ H xs us Q I r h
  obtain ⟨x, rfl, i, rfl, c, q⟩ := h
  exact call_str_int pins s σ H _ us Q I r ⟨i, rfl, c, q⟩
/-! list(x), tuple(x) -/
/-- a text's signs -/
def sgD (z : Str) : List D := z.cps.toList.map fun c => D.str ⟨#[c]⟩
def sgV (z : Str) : List V := z.cps.toList.map fun c => V.str ⟨#[c]⟩
theorem sg_len (z : Str) : (sgV z).length = z.length := by unfold sgV; rw [List.length_map]; rfl
theorem sg_is {ρ : List Addr} {H : Hp} (z : Str) : IsL K ρ H (sgD z) (sgV z) := by
  unfold sgD sgV
  generalize z.cps.toList = l
  induction l with
  | nil => show IsL K ρ H [] []; unfold IsL; rfl
  | cons c l ih =>
    show IsL K ρ H (D.str ⟨#[c]⟩ :: _) (V.str ⟨#[c]⟩ :: _)
    unfold IsL
    exact ⟨_, _, rfl, by unfold Is; rfl, ih⟩
theorem sg_mr (z : Str) : mrL (sgD z) = 0 := by
  unfold sgD
  generalize z.cps.toList = l
  induction l with
  | nil => rfl
  | cons c l ih => show max 0 (mrL _) = 0; rw [ih]; rfl
theorem vals_of : ∀ {xs : List V} {us : List Value}, xs.length = us.length → (∀ (j : Nat) x u, xs[j]? = some x → us[j]? = some u → RelV x u) → Vals xs us
  | [], [], _, _ => .nil
  | [], _ :: _, h, _ => by cases h
  | _ :: _, [], h, _ => by cases h
  | x :: xs, u :: us, h, k => .cons (k 0 x u rfl rfl) (vals_of (by simpa using h) fun j x' u' a b => k (j + 1) x' u' a b)
theorem cr_list_str (hc : X.calm = true) : CallR X (.type "list") (fun vs H Q => ∃ z, vs = [V.str z] ∧ z.length ≤ sizeLine ∧ ∀ l, H l = none → Q (.ref l) (upd H l (.lst (sgV z)))) := by
  intro pins s σ H vs us Q I r h
  obtain ⟨z, rfl, hz, q⟩ := h
  obtain ⟨u, rfl, ru⟩ := Vals.one r
  obtain ⟨t, rfl⟩ := (show ∃ t, u = Value.str z t from ru)
  refine call_list_str (I.ok.hd hc) z t (hn := hz) fun h' tk acc c k hS hacc => ?_
  have hn : H s.heap.objs.size = none := I.hok.fresh (Nat.le_refl _)
  have hl : (sgV z).length = acc.toList.length := by rw [sg_len]; simp [hacc.1]; rfl
  refine ⟨.ref s.heap.objs.size, upd H s.heap.objs.size (.lst (sgV z)), I.laid (t' := tk) k (Nat.le_refl _) ⟨by rw [sg_len]; exact hz, acc.toList, c, vals_of hl fun j x u a b => ?_, by simpa using hS⟩, rfl, q _ hn⟩
  obtain ⟨c', u', e1, e2⟩ := hacc.2 j u (by simpa using b)
  unfold sgV at a
  rw [List.getElem?_map, Array.getElem?_toList, e1] at a
  have a : x = V.str ⟨#[c']⟩ := by simpa using a.symm
  subst a
  subst e2
  exact ⟨_, rfl⟩
def listF (d : D) (h : PH) : Res D := match d with
  | .str z => if z.length ≤ 16777216 then newL (sgD z) h else .stuck
  | d => (match itemsS h d with
    | some ds => newL ds h
    | none => .stuck)
def rList (K : PySem.W.Frag) : V → Hp → VK → Prop := fun x H Q => (∃ z, x = .str z ∧ z.length ≤ sizeLine ∧ ∀ l, H l = none → Q (.ref l) (upd H l (.lst (sgV z)))) ∨ ∃ p ys, x = .ref p ∧ (SqL K H p ys ∨ SqT K H p ys) ∧ ∀ l, H l = none → Q (.ref l) (upd H l (.lst ys))
theorem o_list : Op1 K W listF (rList K) := by
  intro σ ρ h H d x Q at_ rx p
  unfold listF at p
  split at p
  · rename_i z
    split at p
    · rename_i hz
      refine .inl ⟨z, rx.1.str, by rw [sizeLine_eq]; exact hz, fun q hq => ?_⟩
      obtain ⟨ρ', e1, e2⟩ := push_lst at_ (sg_is z) (by rw [sg_mr]; exact Nat.zero_le _) hq
      exact p ρ' _ _ e1 e2
    · exact p.elim
  · split at p
    · rename_i ds q
      obtain ⟨a, xs, rfl, s, i, l⟩ := itemsS_is at_ q rx
      refine .inr ⟨a, xs, rfl, s, fun q hq => ?_⟩
      obtain ⟨ρ', e1, e2⟩ := push_lst at_ i l hq
      exact p ρ' _ _ e1 e2
    · exact p.elim
theorem c_list (hc : X.calm = true) : CallR X (.type "list") (fun xs H Q => ∃ x, xs = [x] ∧ rList (kx X W) x H Q) := by
  intro pins s σ H xs us Q I r h
  obtain ⟨x, rfl, h⟩ := h
  rcases h with ⟨z, rfl, hz, q⟩ | ⟨p, ys, rfl, s', q⟩
  · exact cr_list_str hc pins s σ H _ us Q I r ⟨z, rfl, hz, q⟩
  · exact call_list_of pins s σ H _ us Q I r ⟨p, ys, rfl, s', q⟩
def tupleF (d : D) (h : PH) : Res D := match itemsS h d with
  | some ds => .ok (.tup ds) h
  | none => .stuck
theorem o_tuple : Op1 K W tupleF (fun x H Q => ∃ p ys, x = .ref p ∧ ((SqL K H p ys ∧ ∀ l, H l = none → Q (.ref l) (upd H l (.tup ys))) ∨ (SqT K H p ys ∧ Q (.ref p) H))) := by
  intro σ ρ h H d x Q at_ rx p
  unfold tupleF at p
  split at p
  · rename_i ds q
    cases d with
    | tup es =>
      have e : some es = some ds := q
      cases e
      obtain ⟨a, xs, rfl, s, i⟩ := rx.1.tup
      exact ⟨a, xs, rfl, .inr ⟨s, p ρ _ H at_.refl rx⟩⟩
    | frl es =>
      obtain ⟨a, xs, rfl, s, i, l⟩ := itemsL_is (d := .frl es) at_ q rx
      refine ⟨a, xs, rfl, .inl ⟨s, fun q hq => ?_⟩⟩
      obtain ⟨e1, e2⟩ := push_tup at_ i l hq
      exact p ρ _ _ e1 e2
    | ref es =>
      obtain ⟨a, xs, rfl, s, i, l⟩ := itemsL_is (d := .ref es) at_ q rx
      refine ⟨a, xs, rfl, .inl ⟨s, fun q hq => ?_⟩⟩
      obtain ⟨e1, e2⟩ := push_tup at_ i l hq
      exact p ρ _ _ e1 e2
    | _ => cases q
  · exact p.elim
theorem c_tuple : CallR X (.type "tuple") (fun xs H Q => ∃ x, xs = [x] ∧ ∃ p ys, x = .ref p ∧ ((SqL (kx X W) H p ys ∧ ∀ l, H l = none → Q (.ref l) (upd H l (.tup ys))) ∨ (SqT (kx X W) H p ys ∧ Q (.ref p) H))) := by
  intro pins s σ H xs us Q I r h
  obtain ⟨x, rfl, p, ys, rfl, q⟩ := h
  exact call_tuple_of pins s σ H _ us Q I r ⟨p, ys, rfl, q⟩
/-! sum, max, min, all, any, sorted of a list -/
def sumF (d : D) (h : PH) : Res D := match itemsL h d with
  | some ds => (match intsOf ds with
    | some ns => .ok (.int ns.sum) h
    | none => .stuck)
  | none => .stuck
theorem o_sum : Op1 K W sumF (fun x H Q => ∃ (a : Addr) (ns : List Int), x = .ref a ∧ SqL K H a (ns.map V.int) ∧ Q (.int ns.sum) H) := by
  intro σ ρ h H d x Q at_ rx p
  unfold sumF at p
  split at p
  · rename_i ds q
    split at p
    · rename_i ns q2
      obtain ⟨a, xs, rfl, s, i, l⟩ := itemsL_is at_ q rx
      have e := intsOf_is q2 i
      subst e
      exact ⟨a, ns, rfl, s, p ρ _ H at_.refl is_int⟩
    · exact p.elim
  · exact p.elim
theorem c_sum (hc : X.calm = true) : CallR X (.builtin "sum") (fun xs H Q => ∃ x, xs = [x] ∧ ∃ (a : Addr) (ns : List Int), x = .ref a ∧ SqL (kx X W) H a (ns.map V.int) ∧ Q (.int ns.sum) H) := by
  intro pins s σ H xs us Q I r h
  obtain ⟨x, rfl, a, ns, rfl, q⟩ := h
  exact cr_sum hc pins s σ H _ us Q I r ⟨a, ns, rfl, q⟩
/-- the greatest, the least -/
def maxI : List Int → Int
  | [] => 0
  | [n] => n
  | n :: m :: r => let k := maxI (m :: r); if k > n then k else n
def minI : List Int → Int
  | [] => 0
  | [n] => n
  | n :: m :: r => let k := minI (m :: r); if k < n then k else n
theorem maxI_spec : ∀ {ns : List Int}, 0 < ns.length → maxI ns ∈ ns ∧ ∀ y ∈ ns, y ≤ maxI ns
  | [n], _ => ⟨by simp [maxI], fun y hy => by simp at hy; subst hy; exact Int.le_refl _⟩
  | n :: m :: r, _ => by
    obtain ⟨h1, h2⟩ := maxI_spec (ns := m :: r) (by simp)
    show (if maxI (m :: r) > n then maxI (m :: r) else n) ∈ n :: m :: r ∧ ∀ y ∈ n :: m :: r, y ≤ if maxI (m :: r) > n then maxI (m :: r) else n
    split
    · refine ⟨List.mem_cons_of_mem _ h1, fun y hy => ?_⟩
      rcases List.mem_cons.mp hy with e | e
      · omega
      · exact h2 y e
    · refine ⟨List.mem_cons_self, fun y hy => ?_⟩
      rcases List.mem_cons.mp hy with e | e
      · omega
      · have := h2 y e; omega
theorem minI_spec : ∀ {ns : List Int}, 0 < ns.length → minI ns ∈ ns ∧ ∀ y ∈ ns, minI ns ≤ y
  | [n], _ => ⟨by simp [minI], fun y hy => by simp at hy; subst hy; exact Int.le_refl _⟩
  | n :: m :: r, _ => by
    obtain ⟨h1, h2⟩ := minI_spec (ns := m :: r) (by simp)
    show (if minI (m :: r) < n then minI (m :: r) else n) ∈ n :: m :: r ∧ ∀ y ∈ n :: m :: r, (if minI (m :: r) < n then minI (m :: r) else n) ≤ y
    split
    · refine ⟨List.mem_cons_of_mem _ h1, fun y hy => ?_⟩
      rcases List.mem_cons.mp hy with e | e
      · omega
      · exact h2 y e
    · refine ⟨List.mem_cons_self, fun y hy => ?_⟩
      rcases List.mem_cons.mp hy with e | e
      · omega
      · have := h2 y e; omega
def itemsM (h : PH) (d : D) : Option (List D) := match d with
  | .tup ds => some ds
  | d => itemsL h d
def max1F (d : D) (h : PH) : Res D := match itemsM h d with
  | some ds => (match intsOf ds with
    | some (n :: ns) => .ok (.int (maxI (n :: ns))) h
    | _ => .stuck)
  | none => .stuck
def min1F (d : D) (h : PH) : Res D := match itemsM h d with
  | some ds => (match intsOf ds with
    | some (n :: ns) => .ok (.int (minI (n :: ns))) h
    | _ => .stuck)
  | none => .stuck
theorem maxOf_spec : ∀ (xs : List Int) (x : Int), PySem.W.maxOf x xs ∈ x :: xs ∧ ∀ y ∈ x :: xs, y ≤ PySem.W.maxOf x xs
  | [], x => ⟨by simp [PySem.W.maxOf], fun y hy => by simp at hy; subst hy; exact Int.le_refl _⟩
  | z :: xs, x => by
    have e : PySem.W.maxOf x (z :: xs) = PySem.W.maxOf (if decide (x < z) = true then z else x) xs := rfl
    obtain ⟨h1, h2⟩ := maxOf_spec xs (if decide (x < z) = true then z else x)
    rw [e]
    by_cases c : x < z
    · rw [if_pos (decide_eq_true c)] at h1 h2 ⊢
      refine ⟨List.mem_cons_of_mem _ h1, fun y hy => ?_⟩
      rcases List.mem_cons.mp hy with q | q
      · have := h2 z List.mem_cons_self; omega
      · exact h2 y q
    · rw [if_neg (by simpa using c)] at h1 h2 ⊢
      refine ⟨?_, fun y hy => ?_⟩
      · rcases List.mem_cons.mp h1 with q | q
        · rw [q]; exact List.mem_cons_self
        · exact List.mem_cons_of_mem _ (List.mem_cons_of_mem _ q)
      · have hx := h2 x List.mem_cons_self
        rcases List.mem_cons.mp hy with q | q
        · omega
        · rcases List.mem_cons.mp q with q | q
          · omega
          · exact h2 y (List.mem_cons_of_mem _ q)
theorem minOf_spec : ∀ (xs : List Int) (x : Int), PySem.W.minOf x xs ∈ x :: xs ∧ ∀ y ∈ x :: xs, PySem.W.minOf x xs ≤ y
  | [], x => ⟨by simp [PySem.W.minOf], fun y hy => by simp at hy; subst hy; exact Int.le_refl _⟩
  | z :: xs, x => by
    have e : PySem.W.minOf x (z :: xs) = PySem.W.minOf (if decide (z < x) = true then z else x) xs := rfl
    obtain ⟨h1, h2⟩ := minOf_spec xs (if decide (z < x) = true then z else x)
    rw [e]
    by_cases c : z < x
    · rw [if_pos (decide_eq_true c)] at h1 h2 ⊢
      refine ⟨List.mem_cons_of_mem _ h1, fun y hy => ?_⟩
      rcases List.mem_cons.mp hy with q | q
      · have := h2 z List.mem_cons_self; omega
      · exact h2 y q
    · rw [if_neg (by simpa using c)] at h1 h2 ⊢
      refine ⟨?_, fun y hy => ?_⟩
      · rcases List.mem_cons.mp h1 with q | q
        · rw [q]; exact List.mem_cons_self
        · exact List.mem_cons_of_mem _ (List.mem_cons_of_mem _ q)
      · have hx := h2 x List.mem_cons_self
        rcases List.mem_cons.mp hy with q | q
        · omega
        · rcases List.mem_cons.mp q with q | q
          · omega
          · exact h2 y (List.mem_cons_of_mem _ q)
theorem maxOf_eq {n : Int} {ns : List Int} : PySem.W.maxOf n ns = maxI (n :: ns) := by
  have a := maxOf_spec ns n
  have b := maxI_spec (ns := n :: ns) (by simp)
  have := a.2 _ b.1
  have := b.2 _ a.1
  omega
theorem minOf_eq {n : Int} {ns : List Int} : PySem.W.minOf n ns = minI (n :: ns) := by
  have a := minOf_spec ns n
  have b := minI_spec (ns := n :: ns) (by simp)
  have := a.2 _ b.1
  have := b.2 _ a.1
  omega
theorem holds_ints {h : Heap} : ∀ {ns : List Int} {us : List Value}, Vals (ns.map V.int) us → PySem.W.HoldAll h us ns
  | [], _, .nil => PySem.W.HoldAll.nil
  | n :: ns, _, .cons r t => by
    obtain ⟨t', rfl⟩ := (show ∃ t, _ = Value.int n t from r)
    exact PySem.W.HoldAll.cons ⟨[], .int n t'⟩ (holds_ints t)
def rMaxA (K : PySem.W.Frag) : V → Hp → VK → Prop := fun x H Q => ∃ (a : Addr) (n : Int) (ns : List Int), x = V.ref a ∧ (SqL K H a ((n :: ns).map V.int) ∨ SqT K H a ((n :: ns).map V.int)) ∧ Q (.int (maxI (n :: ns))) H
def rMinA (K : PySem.W.Frag) : V → Hp → VK → Prop := fun x H Q => ∃ (a : Addr) (n : Int) (ns : List Int), x = V.ref a ∧ (SqL K H a ((n :: ns).map V.int) ∨ SqT K H a ((n :: ns).map V.int)) ∧ Q (.int (minI (n :: ns))) H
theorem itemsM_is {ρ : List Addr} {h : PH} {H : Hp} (x : At K ρ h H) {d : D} {v : V} {ds : List D} (e : itemsM h d = some ds) (r : RD K ρ H h.cs.length d v) : ∃ a xs, v = .ref a ∧ (SqL K H a xs ∨ SqT K H a xs) ∧ IsL K ρ H ds xs := by
  cases d with
  | tup es =>
    cases e
    have r1 := r.1
    unfold Is at r1
    obtain ⟨a, xs, rfl, s, i⟩ := r1
    exact ⟨a, xs, rfl, .inr s, i⟩
  | frl es =>
    have e : itemsL h (.frl es) = some ds := e
    obtain ⟨a, xs, rfl, s, i, _⟩ := itemsL_is x e r
    exact ⟨a, xs, rfl, .inl s, i⟩
  | ref m =>
    have e : itemsL h (.ref m) = some ds := e
    obtain ⟨a, xs, rfl, s, i, _⟩ := itemsL_is x e r
    exact ⟨a, xs, rfl, .inl s, i⟩
  | _ => cases e
theorem o_max1 : Op1 K W max1F (rMaxA K) := by
  intro σ ρ h H d x Q at_ rx p
  unfold max1F at p
  split at p
  · rename_i ds q
    split at p
    · rename_i n ns q2
      obtain ⟨a, xs, rfl, s, i⟩ := itemsM_is at_ q rx
      have e := intsOf_is q2 i
      subst e
      exact ⟨a, n, ns, rfl, s, p ρ _ H at_.refl is_int⟩
    · exact p.elim
  · exact p.elim
theorem o_min1 : Op1 K W min1F (rMinA K) := by
  intro σ ρ h H d x Q at_ rx p
  unfold min1F at p
  split at p
  · rename_i ds q
    split at p
    · rename_i n ns q2
      obtain ⟨a, xs, rfl, s, i⟩ := itemsM_is at_ q rx
      have e := intsOf_is q2 i
      subst e
      exact ⟨a, n, ns, rfl, s, p ρ _ H at_.refl is_int⟩
    · exact p.elim
  · exact p.elim
theorem c_max1 (hc : X.calm = true) (hu : X.A.units + 65 < cLine) : CallR X (.builtin "max") (fun xs H Q => ∃ x, xs = [x] ∧ rMaxA (kx X W) x H Q) := by
  intro pins s σ H xs us Q I r h
  obtain ⟨x, rfl, a, n, ns, rfl, sq, q⟩ := h
  rcases sq with sq | sq
  · have sp := maxI_spec (ns := n :: ns) (by simp)
    refine cr_max hc pins s σ H _ us Q I r ⟨a, n :: ns, rfl, sq, by simp, fun m hm hle => ?_⟩
    have e : m = maxI (n :: ns) := by have := sp.2 m hm; have := hle _ sp.1; omega
    rw [e]; exact q
  · obtain ⟨its, rv, ⟨o, p1, p2, n', p3⟩, _⟩ := I.tuple sq
    rw [Vals.ref1 r]
    refine PySem.W.max_tuple_datum (x := n) (xs := ns) (vs := its.toArray) (I.ok.hd hc) ?_ (by simpa using holds_ints (h := s.heap) rv) (by show X.A.units + 1 + 0 < _; omega) fun i v h' tk hi hv k => ?_
    · exact ⟨o, p1, p2, n', p3⟩
    · obtain ⟨as, hv⟩ := hv
      rw [maxOf_eq] at hv
      cases hv
      exact ⟨.int _, H, I.kept k, ⟨_, rfl⟩, q⟩
theorem c_min1 (hc : X.calm = true) (hu : X.A.units + 65 < cLine) : CallR X (.builtin "min") (fun xs H Q => ∃ x, xs = [x] ∧ rMinA (kx X W) x H Q) := by
  intro pins s σ H xs us Q I r h
  obtain ⟨x, rfl, a, n, ns, rfl, sq, q⟩ := h
  rcases sq with sq | sq
  · have sp := minI_spec (ns := n :: ns) (by simp)
    refine cr_min hc pins s σ H _ us Q I r ⟨a, n :: ns, rfl, sq, by simp, fun m hm hle => ?_⟩
    have e : m = minI (n :: ns) := by have := sp.2 m hm; have := hle _ sp.1; omega
    rw [e]; exact q
  · obtain ⟨its, rv, ⟨o, p1, p2, n', p3⟩, _⟩ := I.tuple sq
    rw [Vals.ref1 r]
    refine PySem.W.min_tuple_datum (x := n) (xs := ns) (vs := its.toArray) (I.ok.hd hc) ?_ (by simpa using holds_ints (h := s.heap) rv) (by show X.A.units + 1 + 0 < _; omega) fun i v h' tk hi hv k => ?_
    · exact ⟨o, p1, p2, n', p3⟩
    · obtain ⟨as, hv⟩ := hv
      rw [minOf_eq] at hv
      cases hv
      exact ⟨.int _, H, I.kept k, ⟨_, rfl⟩, q⟩
/-- the truth values of a list -/
def blsOf : List D → Option (List Bool)
  | [] => some []
  | .bl i :: r => (match blsOf r with
    | some l => some (i :: l)
    | none => none)
  | _ :: _ => none
theorem blsOf_is {ρ : List Addr} {H : Hp} : ∀ {ds : List D} {ns : List Bool} {xs : List V}, blsOf ds = some ns → IsL K ρ H ds xs → xs = ns.map V.bl
  | [], ns, xs, e, h => by cases e; exact h.nil
  | d :: ds, ns, xs, e, h => by
    unfold IsL at h
    obtain ⟨x, r, rfl, h1, h2⟩ := h
    cases d with
    | bl i =>
      have e' : (match blsOf ds with | some l => some (i :: l) | none => none) = some ns := e
      cases q : blsOf ds with
      | none => rw [q] at e'; cases e'
      | some l =>
        rw [q] at e'
        cases e'
        rw [h1.bl, blsOf_is q h2]; rfl
    | _ => cases e
def allF (d : D) (h : PH) : Res D := match itemsL h d with
  | some ds => (match blsOf ds with
    | some bs => .ok (.bl (bs.all id)) h
    | none => .stuck)
  | none => .stuck
def anyF (d : D) (h : PH) : Res D := match itemsL h d with
  | some ds => (match blsOf ds with
    | some bs => .ok (.bl (bs.any id)) h
    | none => .stuck)
  | none => .stuck
theorem o_all : Op1 K W allF (fun x H Q => ∃ (a : Addr) (bs : List Bool), x = V.ref a ∧ SqL K H a (bs.map V.bl) ∧ Q (.bl (bs.all id)) H) := by
  intro σ ρ h H d x Q at_ rx p
  unfold allF at p
  split at p
  · rename_i ds q
    split at p
    · rename_i ns q2
      obtain ⟨a, xs, rfl, s, i, l⟩ := itemsL_is at_ q rx
      have e := blsOf_is q2 i
      subst e
      exact ⟨a, ns, rfl, s, p ρ _ H at_.refl is_bl⟩
    · exact p.elim
  · exact p.elim
theorem o_any : Op1 K W anyF (fun x H Q => ∃ (a : Addr) (bs : List Bool), x = V.ref a ∧ SqL K H a (bs.map V.bl) ∧ Q (.bl (bs.any id)) H) := by
  intro σ ρ h H d x Q at_ rx p
  unfold anyF at p
  split at p
  · rename_i ds q
    split at p
    · rename_i ns q2
      obtain ⟨a, xs, rfl, s, i, l⟩ := itemsL_is at_ q rx
      have e := blsOf_is q2 i
      subst e
      exact ⟨a, ns, rfl, s, p ρ _ H at_.refl is_bl⟩
    · exact p.elim
  · exact p.elim
theorem c_all (hc : X.calm = true) : CallR X (.builtin "all") (fun xs H Q => ∃ x, xs = [x] ∧ ∃ (a : Addr) (bs : List Bool), x = V.ref a ∧ SqL (kx X W) H a (bs.map V.bl) ∧ Q (.bl (bs.all id)) H) := by
  intro pins s σ H xs us Q I r h
  obtain ⟨x, rfl, a, ns, rfl, q⟩ := h
  exact cr_all hc pins s σ H _ us Q I r ⟨a, ns, rfl, q⟩
theorem c_any (hc : X.calm = true) : CallR X (.builtin "any") (fun xs H Q => ∃ x, xs = [x] ∧ ∃ (a : Addr) (bs : List Bool), x = V.ref a ∧ SqL (kx X W) H a (bs.map V.bl) ∧ Q (.bl (bs.any id)) H) := by
  intro pins s σ H xs us Q I r h
  obtain ⟨x, rfl, a, ns, rfl, q⟩ := h
  exact cr_any hc pins s σ H _ us Q I r ⟨a, ns, rfl, q⟩
end
end Dy

/-! Calls of defs; methods; statements; loops. -/
namespace Dy
open PySem PySem.Spec PyProof.Rows L2
/-! ### what a def promises -/
abbrev Fn := List D → PH → Res D
def PostF (K : KX) (Q : VK) (E : XK) (ρ : List Addr) (H : Hp) : Res D → Prop
  | .ok d h' => ∀ ρ' v H', Ext K ρ H h' ρ' H' → RD K ρ' H' h'.cs.length d v → Q v H'
  | .exc c h' => ∀ ρ' H', Ext K ρ H h' ρ' H' → E (.ref (He.ga K c)) none H'
  | .stuck => False
def spD (K : KX) (n : Nat) (f : Fn) : Sp := fun vs H Q E => vs.length = n ∧ ∃ ρ ds h, At K ρ h H ∧ RL K ρ H h.cs.length ds vs ∧ PostF K Q E ρ H (f ds h)
section
variable {X : Cx} {W : WJ}
theorem da_len {K : KX} {ρ : List Addr} {H : Hp} {n : Nat} {ds : List D} {vs : List V} (r : RL K ρ H n ds vs) : vs.length = ds.length := r.1.length
/-- a call with n arguments -/
def callF (n : Nat) (f : Fn) : Fn := fun ds h => if ds.length = n then f ds h else .stuck
theorem t_call {K : KX} {w : WX} {hx : Option (Nat × Addr)} {n : Nat} {f : Fn} {m : AM} {σ : L2.St} {H : Hp} {Q : VK} (t : tE K ⟨w, hx⟩ (nA (callF n f) m) σ H Q) : tCallS (spD K n f) (WE w) (tA K ⟨w, hx⟩ m) σ H Q := by
  obtain ⟨ρ, env, h, rl, p⟩ := t
  refine tG_mono (PostG.bind (R := RL K) rl p) fun b H1 ⟨ρ1, h1, a1, x1, ra1, p1⟩ => ?_
  unfold callF at p1
  split at p1
  · rename_i hl
    refine ⟨by rw [ra1.1.length]; exact hl, ρ1, a1, h1, x1.at, ra1, ?_⟩
    cases e : f a1 h1 with
    | stuck => rw [e] at p1; exact p1
    | exc c h2 => rw [e] at p1; exact p1
    | ok d h2 => rw [e] at p1; exact p1
  · exact p1.elim
theorem de_call {x : Str} {p pos : Pos} {e : Expr} {es : List Expr} {m : AM} {k n : Nat} {a : Addr} {fd : FuncData} {ps : List Str} {f : Fn} {w : WX} (F : FnOk X.prog X.w X.K X.mg X.base (L2.CX X.prog X.w) k a fd ps (spD ⟨X.K, none⟩ n f)) (hr : Room k X.A) (hg : Gl X x)
    (hm : X.mg x = some (.ref a)) (hk : PySem.W.keepIn X.K (.ref a) = true) (hb : Binds X.K fd ps []) (tk : Takes X w) (ha : DA X ⟨w, none⟩ (e :: es) m) (hdb : (x == ("__debug__" : Str)) = false) (ns : noStars (e :: es) = true) : DE X ⟨w, none⟩ (.Call (.Name x p) (e :: es) [] pos) (nA (callF n f) m) :=
  pe_imp (pe_callS F hr hg hm hk hb (fun σ => passAt tk σ) ha hdb (star_no (noStars_head ns).1 es _) (noStars_any (noStars_head ns).2 pos _)) fun σ H Q t => t_call t
/-- no arguments -/
theorem de_call0 {x : Str} {p pos : Pos} {k : Nat} {a : Addr} {fd : FuncData} {ps : List Str} {f : Fn} {w : WX} (F : FnOk X.prog X.w X.K X.mg X.base (L2.CX X.prog X.w) k a fd ps (spD ⟨X.K, none⟩ 0 f)) (hr : Room k X.A) (hg : Gl X x)
    (hm : X.mg x = some (.ref a)) (hk : PySem.W.keepIn X.K (.ref a) = true) (hb : Binds X.K fd ps []) (tk : Takes X w) (hdb : (x == ("__debug__" : Str)) = false) : DE X ⟨w, none⟩ (.Call (.Name x p) [] [] pos) (nA (callF 0 f) nilA) := by
  refine ⟨fun pins s σ H Q I h => ?_⟩
  refine wpAny_Call_Name_kw (ld_glob I hg hm ?_ hdb)
  have q : tA ⟨X.K, none⟩ ⟨w, none⟩ nilA σ H fun vs H1 => spD ⟨X.K, none⟩ 0 f vs H1 Q (WE w σ) := t_call h
  obtain ⟨ρ, env, h', rl, p⟩ := q
  have p : ∀ ρ' b H', Ext ⟨X.K, none⟩ ρ H h' ρ' H' → RL ⟨X.K, none⟩ ρ' H' h'.cs.length [] b → spD ⟨X.K, none⟩ 0 f b H' Q (WE w σ) := p
  have q2 := p ρ [] H rl.refl ⟨by unfold IsL; rfl, Nat.zero_le _⟩
  refine PySem.W.callWith_K0 I.kIn hk ?_
  exact run_fnS (us := []) F hr hb (passAt tk σ) I .nil q2

/-- a call of a value that is a def -/
def callVF (T : Str → Option (Nat × Fn)) (o : EM) (m : AM) : EM := fun e h => (o e h).bind fun d h1 => match d with
  | .glb x => (match T x with
    | some (n, k) => nA (callF n k) m e h1
    | none => .stuck)
  | _ => .stuck
/-- how a call is begun -/
def CallAs (X : Cx) (fn : Expr) (args : List Expr) (pos : Pos) : Prop := ∀ (s : Shared) (Q : Value → Shared → Prop), wpAny (model X.prog X.w) X.A (eval fn X.env) (fun f s₁ => wpAny (model X.prog X.w) X.A (callWith pos f [] (backTo pos (starEach args X.env)) []) Q X.xe s₁) X.xe s → wpAny (model X.prog X.w) X.A (eval (.Call fn args [] pos) X.env) Q X.xe s
def TabFn (X : Cx) (T : Str → Option (Nat × Fn)) (k : Nat) : Prop := ∀ x n f, T x = some (n, f) → ∃ a fd ps, X.mg x = some (.ref a) ∧ PySem.W.keepIn X.K (.ref a) = true ∧ Binds X.K fd ps [] ∧ FnOk X.prog X.w X.K X.mg X.base (L2.CX X.prog X.w) k a fd ps (spD ⟨X.K, none⟩ n f) ∧ a = He.ga X.K x
theorem t_callV {T : Str → Option (Nat × Fn)} {k : Nat} {mo : EM} {ma : AM} {w : WX} (hT : TabFn X T k) {σ : L2.St} {H : Hp} {Q : VK} (t : tE ⟨X.K, none⟩ ⟨w, none⟩ (callVF T mo ma) σ H Q) :
    tE ⟨X.K, none⟩ ⟨w, none⟩ mo σ H fun v H1 => ∃ x n f, T x = some (n, f) ∧ v = .ref (He.ga X.K x) ∧ tA ⟨X.K, none⟩ ⟨w, none⟩ ma σ H1 fun vs H2 => spD ⟨X.K, none⟩ n f vs H2 Q (WE w σ) := by
  obtain ⟨ρ, env, h, rl, p⟩ := t
  refine tG_mono (PostG.bind (R := RD ⟨X.K, none⟩) rl p) fun b H1 ⟨ρ1, h1, a1, x1, ra1, p1⟩ => ?_
  cases a1 with
  | glb x =>
    have eb : b = .ref (He.ga X.K x) := by
      have := ra1.1
      unfold Is at this
      exact this
    cases e : T x with
    | none =>
      simp only [e] at p1
      exact p1.elim
    | some nf =>
      obtain ⟨n, f⟩ := nf
      simp only [e] at p1
      exact ⟨x, n, f, e, eb, t_call ⟨ρ1, env, h1, rl.ext x1, p1⟩⟩
  | _ => exact p1.elim
theorem de_callV {fn e : Expr} {es : List Expr} {pos : Pos} {T : Str → Option (Nat × Fn)} {k : Nat} {mo : EM} {ma : AM} {w : WX} (hT : TabFn X T k) (hr : Room k X.A) (tk : Takes X w) (ho : DE X ⟨w, none⟩ fn mo) (ha : DA X ⟨w, none⟩ (e :: es) ma) (ns : noStars (e :: es) = true)
    (hc : CallAs X fn (e :: es) pos) : DE X ⟨w, none⟩ (.Call fn (e :: es) [] pos) (callVF T mo ma) := by
  refine ⟨fun pins s σ H Q I h => hc _ _ ?_⟩
  refine thn (ho.run pins s σ H _ I (t_callV hT h)) fun u s1 ⟨v, H1, I1, rv, x, n, f, ex, ev, q⟩ => ?_
  subst ev
  obtain rfl : u = Value.ref (He.ga X.K x) := rv
  obtain ⟨a, fd, ps, h1, h2, h3, h4, rfl⟩ := hT x n f ex
  refine PySem.W.callWith_K (h₀ := X.base) I1.ok.mod.kin h2 (thn (ha.run pos pins s1 σ H1 _ I1 q) fun us s2 ⟨vs, H2, I2, r, q2⟩ => ⟨I2.kIn, ?_⟩) (star_no (noStars_head ns).1 es _) (noStars_any (noStars_head ns).2 pos _)
  exact run_fnS h4 hr h3 (passAt tk σ) I2 r q2
theorem de_callV0 {fn : Expr} {pos : Pos} {T : Str → Option (Nat × Fn)} {k : Nat} {mo : EM} {w : WX} (hT : TabFn X T k) (hr : Room k X.A) (tk : Takes X w) (ho : DE X ⟨w, none⟩ fn mo) (hc : CallAs X fn [] pos) : DE X ⟨w, none⟩ (.Call fn [] [] pos) (callVF T mo nilA) := by
  refine ⟨fun pins s σ H Q I h => hc _ _ ?_⟩
  refine thn (ho.run pins s σ H _ I (t_callV hT h)) fun u s1 ⟨v, H1, I1, rv, x, n, f, ex, ev, q⟩ => ?_
  subst ev
  obtain rfl : u = Value.ref (He.ga X.K x) := rv
  obtain ⟨a, fd, ps, h1, h2, h3, h4, rfl⟩ := hT x n f ex
  obtain ⟨ρ, env, h', rl, p⟩ := q
  have p : ∀ ρ' b H', Ext ⟨X.K, none⟩ ρ H1 h' ρ' H' → RL ⟨X.K, none⟩ ρ' H' h'.cs.length [] b → spD ⟨X.K, none⟩ n f b H' Q (WE w σ) := p
  have q2 := p ρ [] H1 rl.refl ⟨by unfold IsL; rfl, Nat.zero_le _⟩
  refine PySem.W.callWith_K0 I1.kIn h2 ?_
  exact run_fnS (us := []) h4 hr h3 (passAt tk σ) I1 .nil q2
/-! ### methods of lists and texts -/
/-- the receiver's type is told ahead of the arguments: it keeps it -/
def tyOk (T : String) (h : PH) : D → Bool
  | .str _ => T == "str"
  | .frl _ => T == "list"
  | .ref n => (match h.cs[n]? with
    | some (.lst _) => T == "list"
    | some (.dict _) => T == "dict"
    | _ => false)
  | _ => false
def mtE (T : String) (f : D → List D → PH → Res D) (o : EM) (a : AM) : EM := fun e h => (o e h).bind fun x h1 => if tyOk T h1 x = true then (a e h1).bind fun xs h2 => f x xs h2 else .stuck
theorem tyOk_is {K : KX} {ρ : List Addr} {h : PH} {H : Hp} (at_ : At K ρ h H) {T : String} {d : D} {v : V} (t : tyOk T h d = true) (r : RD K ρ H h.cs.length d v) : tyV K T v H := by
  cases d with
  | str z => rw [r.1.str]; exact eq_of_beq t
  | frl ds =>
    obtain ⟨a, xs, rfl, s, _⟩ := r.1.frl
    exact .inl ⟨eq_of_beq t, xs, s.sq⟩
  | ref n =>
    have t' : (match h.cs[n]? with
    | some (.lst _) => T == "list"
    | some (.dict _) => T == "dict"
    | _ => false) = true := t
    split at t'
    · rename_i ds q
      obtain ⟨a, xs, rfl, _, h1, _⟩ := at_.lst q r.1
      exact .inl ⟨eq_of_beq t', xs, SqL.of h1⟩
    · rename_i kvs q
      obtain ⟨a, xs, rfl, _, h1, _⟩ := at_.dct q r.1
      exact .inr (.inr (.inl ⟨eq_of_beq t', .inl ⟨xs, h1⟩⟩))
    · cases t'
  | _ => cases t
theorem t_mt {K : KX} {T : String} {f : D → List D → PH → Res D} {r : V → List V → Hp → VK → Prop} (hf : OpM K W f r) {mo : EM} {ma : AM} {σ : L2.St} {H : Hp} {Q : VK} (t : tE K W (mtE T f mo ma) σ H Q) :
    tE K W mo σ H fun x H1 => tyV K T x H1 ∧ tA K W ma σ H1 fun xs H2 => r x xs H2 Q := by
  obtain ⟨ρ, env, h, rl, p⟩ := t
  refine tG_mono (PostG.bind (R := RD K) rl p) fun b H1 ⟨ρ1, h1, a1, x1, ra1, p1⟩ => ?_
  split at p1
  · rename_i ty
    refine ⟨tyOk_is x1.at ty ra1, ?_⟩
    refine tG_mono (PostG.bind (R := RL K) (rl.ext x1) p1) fun b2 H2 ⟨ρ2, h2, a2, x2, ra2, p2⟩ => ?_
    exact hf σ ρ2 h2 H2 a1 b a2 b2 Q x2.at (ra1.ext x2 (rl.ext x1).len) ra2 p2
  · exact p1.elim
/-- the receiver is no bare call of super -/
def baseOk : Expr → Bool
  | .Call (.Name _ _) [] [] _ => false
  | _ => true
theorem baseOk_is {o : Expr} (h : baseOk o = true) (m : Str) (env : PySem.Env) (whole : Sem Value) : attributeBase o m env whole = whole := by
  cases o with
  | Call f as ks pos =>
    cases f with
    | Name id p =>
      cases as with
      | nil =>
        cases ks with
        | nil => cases h
        | cons _ _ => rfl
      | cons _ _ => rfl
    | _ => rfl
  | _ => rfl
theorem noStars_all : ∀ {es : List Expr} (h : noStars es = true) (pos : Pos) (env : PySem.Env), (backTo pos (starEach es env)).all (fun x => !x.1) = true
  | [], _, _, _ => rfl
  | e :: es, h, pos, env => by
    obtain ⟨h1, h2⟩ := noStars_head h
    rw [star_no h1 es env]
    show (!false && (backTo pos (starEach es env)).all (fun x => !x.1)) = true
    rw [noStars_all h2 pos env]; rfl
theorem de_mt {T id : String} {name : Str} {o e : Expr} {es : List Expr} {apos cpos : Pos} {mo : EM} {ma : AM} {f : D → List D → PH → Res D} {r : V → List V → Hp → VK → Prop} (pa : PlainAttrs T) (slot : Slot T name id) (hty : typeOf (.builtin id) = pure (.type "method_descriptor"))
    (hm : MtR X id r) (hf : OpM (kx X W) W f r) (ho : DE X W o mo) (ha : DA X W (e :: es) ma) (bo : baseOk o = true) (ns : noStars (e :: es) = true) (hl : (apos.endLine == cpos.line) = true) (few : (e :: es).length < 30) :
    DE X W (.Call (.Attribute o name apos) (e :: es) [] cpos) (mtE T f mo ma) :=
  pe_imp (pe_bm pa slot hty hm ho ha (baseOk_is bo _ _ _) (by
    rw [noStars_all ns cpos X.env, decide_eq_true (by simpa using few)]; rfl) hl (star_no (noStars_head ns).1 es _) (noStars_any (noStars_head ns).2 cpos _)) fun σ H Q t => t_mt hf t
theorem de_mt0 {T id : String} {name : Str} {o : Expr} {apos cpos : Pos} {mo : EM} {f : D → List D → PH → Res D} {r : V → List V → Hp → VK → Prop} (pa : PlainAttrs T) (slot : Slot T name id) (hty : typeOf (.builtin id) = pure (.type "method_descriptor"))
    (hm : MtR X id r) (hf : OpM (kx X W) W f r) (ho : DE X W o mo) (bo : baseOk o = true) (hl : (apos.endLine == cpos.line) = true) :
    DE X W (.Call (.Attribute o name apos) [] [] cpos) (mtE T f mo nilA) :=
  pe_imp (pe_bm0 pa slot hty hm ho (baseOk_is bo _ _ _) hl) fun σ H Q t => by
    obtain ⟨ρ, env, h, rl, p⟩ := t_mt hf t
    refine ⟨ρ, env, h, rl, ?_⟩
    cases e : mo env h with
    | stuck => rw [e] at p; exact p
    | exc c h1 => rw [e] at p; exact p
    | ok a h1 =>
      rw [e] at p
      intro ρ1 b H1 x1 rb
      obtain ⟨ty, ρ2, env2, h2, rl2, p2⟩ := p ρ1 b H1 x1 rb
      exact ⟨ty, p2 ρ2 [] H1 rl2.refl ⟨by unfold IsL; rfl, Nat.zero_le _⟩⟩
/-- an operation that writes a list -/
theorem put_lst {K : KX} {ρ : List Addr} {h : PH} {H : Hp} (x : At K ρ h H) {n : Nat} {a : Addr} (ha : ρ[n]? = some a) {ds : List D} {xs : List V} (i : IsL K ρ H ds xs) (l : mrL ds ≤ h.cs.length) : Ext K ρ H (h.put n (.lst ds)) ρ (upd H a (.lst xs)) :=
  Ext.put x.heap x.wf ha l fun H' e k => ⟨xs, e, IsL.mono k ρ.length (fun i _ a ha => ha) ds xs (by rw [x.heap.len]; exact l) i⟩
theorem put_len (h : PH) (n : Nat) (c : Cell) : (h.put n c).cs.length = h.cs.length := by
  show (h.cs.set n c).length = _
  rw [List.length_set]
def appF (d : D) (as : List D) (h : PH) : Res D := match refLst h d, as with
  | some (n, ds), [a] => if ds.length < 16777216 then .ok .non (h.put n (.lst (ds ++ [a]))) else .stuck
  | _, _ => .stuck
theorem IsL.one {K : KX} {ρ : List Addr} {H : Hp} {d : D} {xs : List V} (h : IsL K ρ H [d] xs) : ∃ v, xs = [v] ∧ Is K ρ H d v := by
  unfold IsL at h
  obtain ⟨x, r, rfl, h1, h2⟩ := h
  rw [h2.nil]
  exact ⟨x, rfl, h1⟩
theorem mrL_one {d : D} {n : Nat} (h : mrL [d] ≤ n) : d.mr ≤ n := by unfold mrL at h; omega
theorem o_app : OpM (kx X W) W appF rAppend := by
  intro σ ρ h H d x ds xs Q at_ rx ra p
  unfold appF at p
  split at p
  · rename_i n es a q
    split at p
    · rename_i c
      obtain ⟨_, _, b, ys, rfl, hb, h1, i, l⟩ := refLst_is at_ q rx
      obtain ⟨v, rfl, iv⟩ := ra.1.one
      have la := mrL_one ra.2
      refine ⟨b, ys, v, rfl, rfl, h1, by rw [sizeLine_eq, i.length]; exact c, ?_⟩
      have i2 : IsL (kx X W) ρ H (es ++ [a]) (ys ++ [v]) := i.append ra.1
      exact p ρ _ _ (put_lst at_ hb i2 (by rw [mrL_append]; exact Nat.max_le.mpr ⟨l, ra.2⟩)) is_non
    · exact p.elim
  · exact p.elim
/-- xs.pop() -/
def popF (d : D) (as : List D) (h : PH) : Res D := match refLst h d, as with
  | some (n, ds), [] => (match ds[ds.length - 1]? with
    | some y => .ok y (h.put n (.lst ds.dropLast))
    | none => .stuck)
  | _, _ => .stuck
theorem IsL.dropLast {K : KX} {ρ : List Addr} {H : Hp} {ds : List D} {xs : List V} (h : IsL K ρ H ds xs) : IsL K ρ H ds.dropLast xs.dropLast := by
  rw [List.dropLast_eq_take, List.dropLast_eq_take, h.length]
  exact h.take _
theorem o_pop : OpM (kx X W) W popF rPop := by
  intro σ ρ h H d x ds xs Q at_ rx ra p
  unfold popF at p
  split at p
  · rename_i n es q
    split at p
    · rename_i y qy
      obtain ⟨_, _, b, ys, rfl, hb, h1, i, l⟩ := refLst_is at_ q rx
      have e0 := ra.1.nil
      obtain ⟨v, e1, iv⟩ := i.get qy
      rw [← i.length] at e1
      refine ⟨b, ys, v, rfl, e0, h1, e1, ?_⟩
      have ly : y.mr ≤ h.cs.length := Nat.le_trans (mrL_get qy) l
      have l2 : mrL es.dropLast ≤ h.cs.length := by rw [List.dropLast_eq_take]; exact Nat.le_trans mrL_take l
      have x2 := put_lst at_ hb i.dropLast l2
      refine p ρ _ _ x2 ⟨x2.is (by rw [at_.heap.len]; exact ly) iv, by rw [put_len]; exact ly⟩
    · exact p.elim
  · exact p.elim
/-- the texts of a list -/
def strsOf : List D → Option (List Str)
  | [] => some []
  | .str i :: r => (match strsOf r with
    | some l => some (i :: l)
    | none => none)
  | _ :: _ => none
theorem strsOf_is {K : KX} {ρ : List Addr} {H : Hp} : ∀ {ds : List D} {ns : List Str} {xs : List V}, strsOf ds = some ns → IsL K ρ H ds xs → xs = ns.map V.str
  | [], ns, xs, e, h => by cases e; exact h.nil
  | d :: ds, ns, xs, e, h => by
    unfold IsL at h
    obtain ⟨x, r, rfl, h1, h2⟩ := h
    cases d with
    | str i =>
      have e' : (match strsOf ds with | some l => some (i :: l) | none => none) = some ns := e
      cases q : strsOf ds with
      | none => rw [q] at e'; cases e'
      | some l =>
        rw [q] at e'
        cases e'
        rw [h1.str, strsOf_is q h2]; rfl
    | _ => cases e
def joinF (d : D) (as : List D) (h : PH) : Res D := match d, as with
  | .str a, [l] => (match itemsS h l with
    | some ds => (match strsOf ds with
      | some ys => if (ys.map (·.length)).sum + ys.length * a.length ≤ 16777216 then .ok (.str (Txt.join a ys)) h else .stuck
      | none => .stuck)
    | none => .stuck)
  | _, _ => .stuck
theorem o_join : OpM (kx X W) W joinF (fun x xs H Q => ∃ a p, ∃ ys : List Str, x = .str a ∧ xs = [.ref p] ∧ (SqL (kx X W) H p (ys.map V.str) ∨ SqT (kx X W) H p (ys.map V.str)) ∧ (ys.map (·.length)).sum + ys.length * a.length ≤ 16777216 ∧ Q (.str (Txt.join a ys)) H) := by
  intro σ ρ h H d x ds xs Q at_ rx ra p
  unfold joinF at p
  split at p
  · rename_i a l
    split at p
    · rename_i es q
      split at p
      · rename_i ys q2
        split at p
        · rename_i c
          obtain ⟨v, rfl, iv⟩ := ra.1.one
          obtain ⟨b, zs, rfl, s, i, _⟩ := itemsS_is at_ q ⟨iv, mrL_one ra.2⟩
          have e := strsOf_is q2 i
          subst e
          exact ⟨a, b, ys, rx.1.str, rfl, s, c, p ρ _ H at_.refl is_str⟩
        · exact p.elim
      · exact p.elim
    · exact p.elim
  · exact p.elim
def splitF (d : D) (as : List D) (h : PH) : Res D := match d, as with
  | .str a, [.str b] => if (b.length == 0) = false ∧ a.length + 2 ≤ 16777216 then newL ((Txt.split a b).map D.str) h else .stuck
  | _, _ => .stuck
theorem isL_strs {K : KX} {ρ : List Addr} {H : Hp} : ∀ (l : List Str), IsL K ρ H (l.map D.str) (l.map V.str)
  | [] => by show IsL K ρ H [] []; unfold IsL; rfl
  | x :: l => by
    show IsL K ρ H (D.str x :: l.map D.str) (V.str x :: l.map V.str)
    unfold IsL
    exact ⟨_, _, rfl, by unfold Is; rfl, isL_strs l⟩
theorem mrL_strs : ∀ (l : List Str), mrL (l.map D.str) = 0
  | [] => rfl
  | x :: l => by
    show max 0 (mrL (l.map D.str)) = 0
    rw [mrL_strs l]; rfl
theorem o_split : OpM (kx X W) W splitF (fun x xs H Q => ∃ a b, x = .str a ∧ xs = [.str b] ∧ (b.length == 0) = false ∧ a.length + 2 ≤ sizeLine ∧ rNewStrs (Txt.split a b) H Q) := by
  intro σ ρ h H d x ds xs Q at_ rx ra p
  unfold splitF at p
  split at p
  · rename_i a b
    split at p
    · rename_i c
      obtain ⟨v, rfl, iv⟩ := ra.1.one
      refine ⟨a, b, rx.1.str, by rw [iv.str], c.1, by rw [sizeLine_eq]; exact c.2, fun q hq => ?_⟩
      obtain ⟨ρ', e1, e2⟩ := push_lst at_ (isL_strs (Txt.split a b)) (by rw [mrL_strs]; exact Nat.zero_le _) hq
      exact p ρ' _ _ e1 e2
    · exact p.elim
  · exact p.elim

/-- text.index(sub, start), where it is found -/
theorem mt_indexFrom : MtR X "str.index" (fun x xs H Q => ∃ (a b : Str) (i : Int) (k : Nat), x = .str a ∧ xs = [.str b, .int i] ∧ PySem.Txt.indexFrom a b i = some k ∧ Q (.int (k : Nat)) H) := by
  intro pins s σ H x xs v us Q I rx rs h
  obtain ⟨a, b, i, k, e1, e2, ho, q⟩ := h
  subst e1
  subst e2
  obtain ⟨t, e⟩ := rx
  subst e
  cases rs with
  | cons r1 rs =>
    cases rs with
    | cons r2 rs =>
      cases rs
      obtain ⟨t2, e⟩ := r1
      subst e
      obtain ⟨t3, e⟩ := r2
      subst e
      unfold PySem.Txt.indexFrom at ho
      cases e : PySem.Builtin.Str.occurrences a b (PySem.fromIndex a.length i) a.length 1 with
      | nil => rw [e] at ho; cases ho
      | cons j rest =>
        rw [e] at ho
        have ej : j = k := by simpa using ho
        subst ej
        exact call_gives PySem.F.slot_str_index (typeIs_str _ _ _) PySem.F.entry_str_index (PySem.F.args_str_index_3 _ _ _) (gives_str_index_from a b i t t2 t3 j rest e) ⟨.int (j : Nat), H, I.tok _, ⟨_, rfl⟩, q⟩
def indexF (d : D) (as : List D) (h : PH) : Res D := match d, as with
  | .str a, [.str b, .int i] => (match PySem.Txt.indexFrom a b i with
    | some k => .ok (.int (k : Nat)) h
    | none => .stuck)
  | _, _ => .stuck
theorem o_index : OpM (kx X W) W indexF (fun x xs H Q => ∃ (a b : Str) (i : Int) (k : Nat), x = .str a ∧ xs = [.str b, .int i] ∧ PySem.Txt.indexFrom a b i = some k ∧ Q (.int (k : Nat)) H) := by
  intro σ ρ h H d x ds xs Q at_ rx ra p
  unfold indexF at p
  split at p
  · rename_i a b i
    split at p
    · rename_i k e
      have iv := ra.1
      unfold IsL at iv
      obtain ⟨v, r, rfl, i1, i2⟩ := iv
      obtain ⟨u, rfl, i3⟩ := i2.one
      exact ⟨a, b, i, k, rx.1.str, by rw [i1.str, i3.int], e, p ρ _ H at_.refl is_int⟩
    · exact p.elim
  · exact p.elim
/-! ### sorted ints -/
def insI (n : Int) : List Int → List Int
  | [] => [n]
  | m :: r => if n ≤ m then n :: m :: r else m :: insI n r
def sortI : List Int → List Int
  | [] => []
  | n :: r => insI n (sortI r)
theorem insI_perm (n : Int) : ∀ l : List Int, (insI n l).Perm (n :: l)
  | [] => .refl _
  | m :: r => by
    show (if n ≤ m then n :: m :: r else m :: insI n r).Perm (n :: m :: r)
    split
    · exact .refl _
    · exact ((insI_perm n r).cons m).trans (.swap n m r)
theorem sortI_perm : ∀ l : List Int, (sortI l).Perm l
  | [] => .refl _
  | n :: r => (insI_perm n (sortI r)).trans ((sortI_perm r).cons n)
theorem insI_sorted (n : Int) : ∀ {l : List Int}, l.Pairwise (· ≤ ·) → (insI n l).Pairwise (· ≤ ·)
  | [], _ => by show [n].Pairwise _; simp
  | m :: r, h => by
    show (if n ≤ m then n :: m :: r else m :: insI n r).Pairwise (· ≤ ·)
    obtain ⟨h1, h2⟩ := List.pairwise_cons.mp h
    split
    · rename_i c
      refine List.pairwise_cons.mpr ⟨fun y hy => ?_, h⟩
      rcases List.mem_cons.mp hy with e | e
      · rw [e]; exact c
      · exact Int.le_trans c (h1 y e)
    · rename_i c
      refine List.pairwise_cons.mpr ⟨fun y hy => ?_, insI_sorted n h2⟩
      rcases List.mem_cons.mp ((insI_perm n r).mem_iff.mp hy) with e | e
      · rw [e]; omega
      · exact h1 y e
theorem sortI_sorted : ∀ l : List Int, (sortI l).Pairwise (· ≤ ·)
  | [] => List.Pairwise.nil
  | n :: r => insI_sorted n (sortI_sorted r)
theorem sorted_unique : ∀ {l m : List Int}, l.Perm m → l.Pairwise (· ≤ ·) → m.Pairwise (· ≤ ·) → l = m
  | [], m, p, _, _ => (List.Perm.nil_eq p)
  | a :: l, [], p, _, _ => absurd p.length_eq (by simp)
  | a :: l, b :: m, p, h1, h2 => by
    obtain ⟨a1, a2⟩ := List.pairwise_cons.mp h1
    obtain ⟨b1, b2⟩ := List.pairwise_cons.mp h2
    have e : a = b := by
      have ha : a ∈ b :: m := p.mem_iff.mp List.mem_cons_self
      have hb : b ∈ a :: l := p.mem_iff.mpr List.mem_cons_self
      rcases List.mem_cons.mp ha with e | e
      · exact e
      · rcases List.mem_cons.mp hb with e' | e'
        · exact e'.symm
        · have := b1 a e; have := a1 b e'; omega
    subst e
    rw [sorted_unique (List.Perm.cons_inv p) a2 b2]
def sortedF (d : D) (h : PH) : Res D := match itemsL h d with
  | some ds => (match intsOf ds with
    | some ns => newL ((sortI ns).map D.int) h
    | none => .stuck)
  | none => .stuck
theorem isL_ints {K : KX} {ρ : List Addr} {H : Hp} : ∀ (l : List Int), IsL K ρ H (l.map D.int) (l.map V.int)
  | [] => by show IsL K ρ H [] []; unfold IsL; rfl
  | x :: l => by
    show IsL K ρ H (D.int x :: l.map D.int) (V.int x :: l.map V.int)
    unfold IsL
    exact ⟨_, _, rfl, by unfold Is; rfl, isL_ints l⟩
theorem mrL_ints : ∀ (l : List Int), mrL (l.map D.int) = 0
  | [] => rfl
  | x :: l => by
    show max 0 (mrL (l.map D.int)) = 0
    rw [mrL_ints l]; rfl
theorem o_sorted : Op1 (kx X W) W sortedF (fun x H Q => ∃ (a : Addr) (ns : List Int), x = V.ref a ∧ SqL (kx X W) H a (ns.map V.int) ∧ ∀ (ns' : List Int) (p : Addr), ns'.Perm ns → ns'.Pairwise (· ≤ ·) → H p = none → Q (.ref p) (upd H p (.lst (ns'.map V.int)))) := by
  intro σ ρ h H d x Q at_ rx p
  unfold sortedF at p
  split at p
  · rename_i ds q
    split at p
    · rename_i ns q2
      obtain ⟨a, xs, rfl, s, i, l⟩ := itemsL_is at_ q rx
      have e := intsOf_is q2 i
      subst e
      refine ⟨a, ns, rfl, s, fun ns' q pm sr hq => ?_⟩
      have e := sorted_unique (pm.trans (sortI_perm ns).symm) sr (sortI_sorted ns)
      subst e
      obtain ⟨ρ', e1, e2⟩ := push_lst at_ (isL_ints (sortI ns)) (by rw [mrL_ints]; exact Nat.zero_le _) hq
      exact p ρ' _ _ e1 e2
    · exact p.elim
  · exact p.elim
theorem c_sorted : CallR X (.builtin "sorted") (fun xs H Q => ∃ x, xs = [x] ∧ ∃ (a : Addr) (ns : List Int), x = V.ref a ∧ SqL (kx X W) H a (ns.map V.int) ∧ ∀ (ns' : List Int) (p : Addr), ns'.Perm ns → ns'.Pairwise (· ≤ ·) → H p = none → Q (.ref p) (upd H p (.lst (ns'.map V.int)))) := by
  intro pins s σ H xs us Q I r h
  obtain ⟨x, rfl, a, ns, rfl, q⟩ := h
  exact cr_sortedI pins s σ H _ us Q I r ⟨a, ns, rfl, q⟩
/-! ### d.get(k, x), a dict's display -/
def dGetL : List (D × D) → Str → Option D
  | [], _ => none
  | (.str x, d) :: r, k => if x = k then some d else dGetL r k
  | _ :: r, k => dGetL r k
def dgetF (x : D) (as : List D) (h : PH) : Res D := match x, as with
  | .ref n, [.str k, z] => (match h.cs[n]? with
    | some (.dict kvs) => (match dGetL kvs k with
      | some d => .ok d h
      | none => .ok z h)
    | _ => .stuck)
  | _, _ => .stuck
theorem dkV_is {p : D × D} {x : Key × V} (h : dkV p = some x) : ∃ k d v, p = (.str k, d) ∧ x = (.inr k, v) ∧ (∀ (K : KX) ρ H, Is K ρ H d v) ∧ d.mr = 0 := by
  obtain ⟨a, b⟩ := p
  cases a with
  | str k =>
    cases b with
    | int i => cases h; exact ⟨k, _, _, rfl, rfl, fun K ρ H => by unfold Is; rfl, rfl⟩
    | str i => cases h; exact ⟨k, _, _, rfl, rfl, fun K ρ H => by unfold Is; rfl, rfl⟩
    | _ => cases h
  | _ => cases h
theorem dGetL_is {k : Str} : ∀ {kvs : List (D × D)} {xs : List (Key × V)}, kvs.map dkV = xs.map some → (∀ d, dGetL kvs k = some d → ∃ v, valV xs (.inr k) = some v ∧ (∀ (K : KX) ρ H, Is K ρ H d v) ∧ d.mr = 0) ∧ (dGetL kvs k = none → valV xs (.inr k) = none)
  | [], [], _ => ⟨fun d h => (by cases h), fun _ => rfl⟩
  | [], _ :: _, h => by cases h
  | _ :: _, [], h => by cases h
  | p :: r, x :: xs, h => by
    rw [List.map_cons, List.map_cons] at h
    injection h with h1 h2
    obtain ⟨j, d, v, rfl, rfl, i1, i2⟩ := dkV_is h1
    obtain ⟨n1, n2⟩ := dGetL_is (k := k) h2
    by_cases c : j = k
    · subst c
      have e : valV ((Sum.inr j, v) :: xs) (Sum.inr j : Key) = some v := valV_pos rfl
      refine ⟨fun d' h' => ?_, fun h' => ?_⟩
      · have h' : (if j = j then some d else dGetL r j) = some d' := h'
        rw [if_pos rfl] at h'
        cases h'
        exact ⟨v, e, i1, i2⟩
      · have h' : (if j = j then some d else dGetL r j) = none := h'
        rw [if_pos rfl] at h'; cases h'
    · have e : valV ((Sum.inr j, v) :: xs) (Sum.inr k : Key) = valV xs (Sum.inr k) := valV_neg fun z => c (Sum.inr.inj z)
      have s : dGetL ((.str j, d) :: r) k = dGetL r k := if_neg c
      rw [s, e]
      exact ⟨n1, n2⟩
def rDGet2 : V → List V → Hp → VK → Prop := fun x xs H Q => ∃ a y z o, x = .ref a ∧ xs = [y, z] ∧ DGet H a y o ∧ Q (o.getD z) H
theorem mt_dget2 (hu : X.A.units + 1 < cLine) : MtR X "dict.get" rDGet2 := by
  intro pins s σ H x xs v us Q I rx rs q
  obtain ⟨a, y, z, o, rfl, rfl, g, q⟩ := q
  cases rx
  cases rs with
  | cons r1 rs =>
    cases rs with
    | cons r2 rs =>
      cases rs
      exact d_get2 hu I g r1 r2 fun w' s' I' rw' => ⟨_, H, I', rw', q⟩
theorem o_dget : OpM (kx X W) W dgetF rDGet2 := by
  intro σ ρ h H d x ds xs Q at_ rx ra p
  unfold dgetF at p
  split at p
  · rename_i n k z
    split at p
    · rename_i kvs q
      obtain ⟨a, ys, rfl, _, h1, h2⟩ := at_.dct q rx.1
      obtain ⟨u, r1, rfl, iu, r2⟩ := ra.1
      obtain ⟨w, r3, rfl, iw, r4⟩ := r2
      have r5 : r3 = [] := r4
      subst r5
      have lw : mrL [.str k, z] ≤ h.cs.length := ra.2
      unfold mrL at lw
      unfold mrL at lw
      obtain ⟨n1, n2⟩ := dGetL_is (k := k) h2
      have ek : u = kV (.inr k) := iu.str
      split at p
      · rename_i d' e
        obtain ⟨v, e1, i1, i2⟩ := n1 d' e
        exact ⟨a, u, w, some v, rfl, rfl, by rw [ek, ← e1]; exact DGet.k h1, p ρ v H at_.refl ⟨i1 _ _ _, by rw [i2]; exact Nat.zero_le _⟩⟩
      · rename_i e
        exact ⟨a, u, w, none, rfl, rfl, by rw [ek, ← n2 e]; exact DGet.k h1, p ρ w H at_.refl ⟨iw, by omega⟩⟩
    · exact p.elim
  · exact p.elim
/-- constants in a display -/
def dispC : List (Option Expr) → List Expr → Option (List (Str × Int))
  | [], [] => some []
  | some (.Constant (.str k) _ _) :: ks, .Constant (.int v) _ _ :: vs => (match dispC ks vs with
    | some l => some ((k, v) :: l)
    | none => none)
  | _, _ => none
def dkB : Key × V → D × D
  | (.inr k, .int v) => (.str k, .int v)
  | _ => (.non, .non)
def dispL (l : List (Str × Int)) : List (Key × V) := mergeK [] (l.map fun p => (.inr p.1, .int p.2))
def dictE (l : List (Str × Int)) : EM := fun _ h => .ok (.ref h.cs.length) (h.push (.dict ((dispL l).map dkB)))
def IntV (l : List (Key × V)) : Prop := ∀ p ∈ l, ∃ k v, p = (.inr k, .int v)
theorem intV_put {l : List (Key × V)} {k : Str} {v : Int} (h : IntV l) : IntV (putK l (.inr k) (.int v)) := fun p hp => by
  unfold putK at hp
  split at hp
  · obtain ⟨q, hq, rfl⟩ := List.mem_map.mp hp
    obtain ⟨k', v', rfl⟩ := h q hq
    dsimp only
    split
    · exact ⟨k', v, rfl⟩
    · exact ⟨k', v', rfl⟩
  · rcases List.mem_append.mp hp with hp | hp
    · exact h p hp
    · exact ⟨k, v, List.mem_singleton.mp hp⟩
theorem intV_fold : ∀ (m : List (Str × Int)) {l : List (Key × V)}, IntV l → IntV (mergeK l (m.map fun p => (.inr p.1, .int p.2)))
  | [], _, h => h
  | p :: r, _, h => intV_fold r (intV_put h)
theorem dkB_back : ∀ {l : List (Key × V)}, IntV l → (l.map dkB).map dkV = l.map some
  | [], _ => rfl
  | p :: r, h => by
    obtain ⟨k, v, rfl⟩ := h p List.mem_cons_self
    rw [List.map_cons, List.map_cons, List.map_cons, dkB_back fun q hq => h q (List.mem_cons_of_mem _ hq)]
    rfl
theorem mrK_back : ∀ {l : List (Key × V)}, IntV l → mrK (l.map dkB) = 0
  | [], _ => rfl
  | p :: r, h => by
    obtain ⟨k, v, rfl⟩ := h p List.mem_cons_self
    rw [List.map_cons]
    have := mrK_back fun q hq => h q (List.mem_cons_of_mem (a := q) _ hq)
    show max 0 (max 0 (mrK (r.map dkB))) = 0
    rw [this]; rfl
theorem disp_pps {pos : Pos} : ∀ {ks : List (Option Expr)} {vs : List Expr} {l : List (Str × Int)}, dispC ks vs = some l → ∃ trs, PPs X pos ks vs trs ∧ (∀ (σ : L2.St) (H : Hp) (Q : List (V × V) → Hp → Prop), Q (l.map fun p => (V.str p.1, V.int p.2)) H → tPairs trs σ H Q) ∧ ks.all (·.isSome) = true ∧ ks.length = vs.length ∧ ks.length = l.length
  | ks, vs, l, h => by
    unfold dispC at h
    split at h
    · cases h
      exact ⟨[], pps_nil, fun σ H Q q => q, rfl, rfl, rfl⟩
    · split at h
      · rename_i k _ _ ks v _ _ vs _ l' e
        cases h
        obtain ⟨trs, h1, h2, h3, h4, h5⟩ := disp_pps e
        exact ⟨(tC (.str k), tC (.int v)) :: trs, pps_cons pe_str pe_int h1, fun σ H Q q => h2 σ H _ q, by rw [List.all_cons, h3]; rfl, by rw [List.length_cons, List.length_cons, h4], by rw [List.length_cons, List.length_cons, h5]⟩
      · cases h
    · cases h
theorem de_disp {ks : List (Option Expr)} {vs : List Expr} {l : List (Str × Int)} {pos : Pos} (h : dispC ks vs = some l) (h15 : l.length ≤ 15) (h0 : l ≠ []) : DE X W (.Dict ks vs pos) (dictE l) := by
  obtain ⟨trs, h1, h2, h3, h4, h5⟩ := disp_pps (X := X) (pos := pos) h
  refine pe_imp (pe_disp h1 h3 h4 (fun z => h0 ?_) (by rw [h5]; exact h15)) fun σ H Q ⟨ρ, env, h, rl, p⟩ q hq => ?_
  · rw [z] at h5
    exact List.eq_nil_of_length_eq_zero h5.symm
  · refine h2 σ _ _ ⟨upd_same, l.map fun p => (.inr p.1, .int p.2), ?_, by rw [List.length_map]; exact h15, ?_⟩
    · rw [List.map_map]; rfl
    · rw [upd_upd]
      have iv : IntV (dispL l) := intV_fold l fun p hp => by cases hp
      have x := Ext.push (o := .dK (dispL l)) (c := .dict ((dispL l).map dkB)) rl.heap rl.wf hq (by show mrK _ ≤ _; rw [mrK_back iv]; exact Nat.zero_le _) fun H' e k => ⟨dispL l, e, dkB_back iv⟩
      refine p _ (.ref q) _ x ⟨?_, ?_⟩
      · unfold Is
        exact ⟨q, by rw [← rl.heap.len, List.getElem?_append_right (Nat.le_refl _), Nat.sub_self]; rfl, rfl⟩
      · show h.cs.length + 1 ≤ (h.cs ++ [_]).length
        rw [List.length_append]; exact Nat.le_refl _
end
end Dy

/-! Statements, targets, loops, comprehensions. -/
namespace Dy
open PySem PySem.Spec PyProof.Rows L2
section
variable {X : Cx} {W : WJ}
/-! ### blocks, small statements -/
def nextS : SM := fun e h => .nxt e h
def brkS : SM := fun e h => .brk e h
def cntS : SM := fun e h => .cnt e h
def seqS (a b : SM) : SM := fun e h => match a e h with
  | .nxt e1 h1 => b e1 h1
  | .ret d h1 => .ret d h1
  | .brk e1 h1 => .brk e1 h1
  | .cnt e1 h1 => .cnt e1 h1
  | .exc c e1 h1 => .exc c e1 h1
  | .stuck => .stuck
theorem dss_nil : DSs X W [] nextS := pss_imp pss_nil fun D σ H ⟨ρ, env, h, rl, p⟩ => p ρ σ H rl.refl rl.eis rl.ewf
theorem tS_mono {K : KX} {m : SM} {σ : L2.St} {H : Hp} {D : Ends} {N : L2.St → Hp → Prop} (t : tS K W m D σ H) (k : ∀ σ H, D.nx σ H → N σ H) : tS K W m { D with nx := N } σ H := by
  obtain ⟨ρ, env, h, rl, p⟩ := t
  refine ⟨ρ, env, h, rl, ?_⟩
  cases e : m env h with
  | nxt e1 h1 => rw [e] at p; exact fun ρ' σ' H' x1 x2 x3 => k _ _ (p ρ' σ' H' x1 x2 x3)
  | ret d h1 => rw [e] at p; exact p
  | brk e1 h1 => rw [e] at p; exact p
  | cnt e1 h1 => rw [e] at p; exact p
  | exc c e1 h1 => rw [e] at p; exact p
  | stuck => rw [e] at p; exact p
theorem t_seq {K : KX} {a b : SM} {σ : L2.St} {H : Hp} {D : Ends} (t : tS K W (seqS a b) D σ H) : tS K W a { D with nx := tS K W b D } σ H := by
  obtain ⟨ρ, env, h, rl, p⟩ := t
  refine ⟨ρ, env, h, rl, ?_⟩
  unfold seqS at p
  cases e : a env h with
  | nxt e1 h1 =>
    rw [e] at p
    exact fun ρ' σ' H' x1 x2 x3 => ⟨ρ', e1, h1, ⟨x2, x1.rel, x1.wf, x3⟩, p.shift x1⟩
  | ret d h1 => rw [e] at p; exact p
  | brk e1 h1 => rw [e] at p; exact p
  | cnt e1 h1 => rw [e] at p; exact p
  | exc c e1 h1 => rw [e] at p; exact p
  | stuck => rw [e] at p; exact p
theorem dss_cons {st : Stmt} {rest : List Stmt} {a b : SM} (h1 : DS X W st a) (h2 : DSs X W rest b) : DSs X W (st :: rest) (seqS a b) := pss_imp (pss_cons h1 h2) fun D σ H t => t_seq t
theorem ds_pass {pos : Pos} : DS X W (.Pass pos) nextS := ps_imp ps_pass fun D σ H ⟨ρ, env, h, rl, p⟩ => p ρ σ H rl.refl rl.eis rl.ewf
theorem ds_brk {pos : Pos} : DS X W (.Break pos) brkS := ps_imp ps_break fun D σ H ⟨ρ, env, h, rl, p⟩ => p ρ σ H rl.refl rl.eis rl.ewf
theorem ds_cnt {pos : Pos} : DS X W (.Continue pos) cntS := ps_imp ps_continue fun D σ H ⟨ρ, env, h, rl, p⟩ => p ρ σ H rl.refl rl.eis rl.ewf
/-- not a comprehension -/
def notComp : Expr → Bool
  | .ListComp _ _ _ _ => false
  | .SetComp _ _ _ _ => false
  | .DictComp _ _ _ _ _ => false
  | _ => true
theorem swaps_no {e : Expr} (h : notComp e = true) (t : Option Expr) (l : Nat) (env : PySem.Env) : swapsWith e t l env = pure false := by
  cases e <;> first | rfl | cases h
def exprS (m : EM) : SM := fun e h => (m e h).bindS e fun _ h1 => .nxt e h1
theorem ds_expr {e : Expr} {m : EM} {pos : Pos} (he : DE X W e m) (hn : notComp e = true) : DS X W (.Expr e pos) (exprS m) := ps_imp (ps_expr he (swaps_no hn _ _ _)) fun D σ H ⟨ρ, env, h, rl, p⟩ => by
  refine tG_mono (PostS.bind (R := RD (kx X W)) rl p) fun b H1 ⟨ρ1, h1, a1, x1, ra1, p1⟩ => ?_
  have r1 := rl.ext x1
  exact p1 ρ1 σ H1 r1.refl r1.eis r1.ewf
theorem ds_doc {x : Str} {j : Nat} {pos pos' : Pos} : DS X W (.Expr (.Constant (.str x) j pos) pos') nextS := ps_imp ps_doc fun D σ H ⟨ρ, env, h, rl, p⟩ => p ρ σ H rl.refl rl.eis rl.ewf
def retS (m : EM) : SM := fun e h => (m e h).bindS e fun d h1 => .ret d h1
theorem ds_ret {e : Expr} {m : EM} {pos : Pos} (he : DE X W e m) : DS X W (.Return (some e) pos) (retS m) := ps_imp (ps_ret he) fun D σ H ⟨ρ, env, h, rl, p⟩ => by
  refine tG_mono (PostS.bind (R := RD (kx X W)) rl p) fun b H1 ⟨ρ1, h1, a1, x1, ra1, p1⟩ => ?_
  exact p1 ρ1 b H1 x1.at.refl ra1
def retNS : SM := fun _ h => .ret .non h
theorem ds_retN {pos : Pos} : DS X W (.Return none pos) retNS := ps_imp ps_retN fun D σ H ⟨ρ, env, h, rl, p⟩ => p ρ .non H rl.refl is_non
def ifS (t : TM) (a b : SM) : SM := fun e h => (t e h).bindS e fun c h1 => match c with
  | true => a e h1
  | false => b e h1
theorem ds_if {c : Expr} {as bs : List Stmt} {t : TM} {a b : SM} {pos : Pos} (hc : DT X W c t) (ha : DSs X W as a) (hb : DSs X W bs b) : DS X W (.If c as bs pos) (ifS t a b) := ps_imp (ps_if hc ha hb) fun D σ H ⟨ρ, env, h, rl, p⟩ => by
  refine tG_mono (PostS.bind (R := RB) rl p) fun b H1 ⟨ρ1, h1, d, x1, r1, p1⟩ => ?_
  have e : d = b := r1
  subst e
  cases d with
  | true => exact iteT ⟨ρ1, env, h1, rl.ext x1, p1⟩
  | false => exact iteF ⟨ρ1, env, h1, rl.ext x1, p1⟩

/-! ### targets -/
inductive Tgt where
  | one (i : Nat) | many (is : List Nat)
def Tgt.slots : Tgt → List Nat
  | .one i => [i]
  | .many is => is
def setAll : List Nat → List D → Env → Env
  | i :: is, d :: ds, e => setAll is ds (e.set i (some d))
  | _, _, e => e
def tgt (t : Tgt) (d : D) (e : Env) (h : PH) : Option Env := match t with
  | .one i => some (e.set i (some d))
  | .many is => (match itemsS h d with
    | some ds => if ds.length = is.length then some (setAll is ds e) else none
    | none => none)
theorem EnvIs.set {K : KX} {ρ : List Addr} {H : Hp} {env : Env} {σ : L2.St} {i : Nat} {d : D} {v : V} (hc : K.can i) (h : EnvIs K ρ H env σ) (q : Is K ρ H d v) : EnvIs K ρ H (env.set i (some d)) (σ.set i (some v)) := by
  refine ⟨by rw [List.length_set, List.length_set]; exact h.len, fun j c e => ?_, KX.J_set hc h.inv⟩
  by_cases hj : i = j
  · subst hj
    have hl : i < env.length := by
      have := (List.getElem?_eq_some_iff.mp e).1
      rw [List.length_set] at this; exact this
    rw [List.getElem?_set_self hl] at e
    have e' : d = c := by cases e; rfl
    subst e'
    exact ⟨v, by rw [List.getElem?_set_self (by rw [← h.len]; exact hl)], q⟩
  · rw [List.getElem?_set_ne hj] at e ⊢
    exact h.at_ j c e
theorem EnvWf.set {env : Env} {n i : Nat} {d : D} (w : EnvWf env n) (l : d.mr ≤ n) : EnvWf (env.set i (some d)) n := fun j c e => by
  by_cases hj : i = j
  · subst hj
    have hl : i < env.length := by
      have := (List.getElem?_eq_some_iff.mp e).1
      rw [List.length_set] at this; exact this
    rw [List.getElem?_set_self hl] at e
    have e' : d = c := by cases e; rfl
    subst e'; exact l
  · rw [List.getElem?_set_ne hj] at e
    exact w j c e
theorem Rel.set {K : KX} {ρ : List Addr} {env : Env} {h : PH} {σ : L2.St} {H : Hp} {i : Nat} {d : D} {v : V} (hc : K.can i) (r : Rel K ρ env h σ H) (q : RD K ρ H h.cs.length d v) : Rel K ρ (env.set i (some d)) h (σ.set i (some v)) H :=
  ⟨EnvIs.set hc r.eis q.1, r.heap, r.wf, r.ewf.set q.2⟩
/-- a target's reading: how it is stored -/
def TgOk (K : KX) (t : Tgt) (g : TG) : Prop := ∀ (ρ : List Addr) (env e1 : Env) (h : PH) (σ : L2.St) (H : Hp) (d : D) (v : V) (Q : L2.St → Hp → Prop), Rel K ρ env h σ H → RD K ρ H h.cs.length d v → tgt t d env h = some e1 →
  (∀ σ', Rel K ρ e1 h σ' H → (∀ vs : List Nat, (∀ i ∈ t.slots, i ∈ vs) → wipe σ' vs = wipe σ vs) → Q σ' H) → g v σ H Q
theorem wipe_get : ∀ (vs : List Nat) (σ : L2.St) (j : Nat), (wipe σ vs)[j]? = if j ∈ vs then (if j < σ.length then some none else none) else σ[j]?
  | [], σ, j => by simp [wipe]
  | v :: vs, σ, j => by
    unfold wipe
    by_cases hv : v = j
    · subst hv
      rw [if_pos List.mem_cons_self]
      by_cases hl : v < σ.length
      · rw [if_pos hl, List.getElem?_set_self (by rw [wipe_length]; exact hl)]
      · rw [if_neg hl, List.getElem?_eq_none (by rw [List.length_set, wipe_length]; omega)]
    · rw [List.getElem?_set_ne hv, wipe_get vs σ j]
      by_cases hj : j ∈ vs
      · rw [if_pos hj, if_pos (List.mem_cons_of_mem _ hj)]
      · rw [if_neg hj, if_neg (fun z => (List.mem_cons.mp z).elim (fun e => hv e.symm) hj)]
theorem wipe_set {σ : L2.St} {i : Nat} {o : Option V} {vs : List Nat} (h : i ∈ vs) : wipe (σ.set i o) vs = wipe σ vs := by
  apply List.ext_getElem?
  intro j
  rw [wipe_get, wipe_get, List.length_set]
  split
  · rfl
  · rename_i hj
    have hij : i ≠ j := fun e => hj (e ▸ h)
    rw [List.getElem?_set_ne hij]
theorem tg_one {K : KX} (i : Nat) (hc : K.can i) : TgOk K (.one i) (gName i) := fun ρ env e1 h σ H d v Q r q e k => by
  have e' : env.set i (some d) = e1 := by cases e; rfl
  subst e'
  exact k _ (Rel.set hc r q) fun vs hv => wipe_set (hv i (by simp [Tgt.slots]))
/-- names, one after another -/
def gNames : List Nat → TGs
  | [] => gNil
  | i :: is => gCons (gName i) (gNames is)
theorem gNames_ok {K : KX} : ∀ (is : List Nat) (hc : ∀ i ∈ is, K.can i) (ρ : List Addr) (env : Env) (h : PH) (σ : L2.St) (H : Hp) (ds : List D) (vs : List V) (Q : L2.St → Hp → Prop), Rel K ρ env h σ H → RL K ρ H h.cs.length ds vs → ds.length = is.length →
    (∀ σ', Rel K ρ (setAll is ds env) h σ' H → (∀ vs : List Nat, (∀ i ∈ is, i ∈ vs) → wipe σ' vs = wipe σ vs) → Q σ' H) → gNames is vs σ H Q
  | [], hc, ρ, env, h, σ, H, ds, vs, Q, r, q, hl, k => by
    have e : ds = [] := List.eq_nil_of_length_eq_zero hl
    subst e
    exact ⟨q.1.nil, k σ r fun _ _ => rfl⟩
  | i :: is, hc, ρ, env, h, σ, H, [], vs, Q, r, q, hl, k => by simp at hl
  | i :: is, hc, ρ, env, h, σ, H, d :: ds, vs, Q, r, q, hl, k => by
    have i0 := q.1
    unfold IsL at i0
    obtain ⟨x, rest, rfl, h1, h2⟩ := i0
    have l := q.2
    unfold mrL at l
    refine ⟨x, rest, rfl, ?_⟩
    exact gNames_ok is (fun j hj => hc j (List.mem_cons_of_mem _ hj)) ρ _ h _ H ds rest Q (Rel.set (hc i List.mem_cons_self) r ⟨h1, by omega⟩) ⟨h2, by omega⟩ (by simpa using hl) fun σ' r' w => k σ' r' fun vs hv => (w vs fun j hj => hv j (List.mem_cons_of_mem _ hj)).trans (wipe_set (hv i List.mem_cons_self))
def gMany (K : KX) (n : Nat) (t : TGs) : TG := fun v σ H Q => gTup K n t v σ H Q ∨ gLst K n t v σ H Q
theorem tg_many {K : KX} (is : List Nat) (hc : ∀ i ∈ is, K.can i) : TgOk K (.many is) (gMany K is.length (gNames is)) := fun ρ env e1 h σ H d v Q r q e k => by
  have e' : (match itemsS h d with
    | some ds => if ds.length = is.length then some (setAll is ds env) else none
    | none => none) = some e1 := e
  split at e'
  · rename_i ds q2
    split at e'
    · rename_i hl
      have e2 : setAll is ds env = e1 := by cases e'; rfl
      subst e2
      obtain ⟨a, xs, rfl, s, i, l⟩ := itemsS_is ⟨r.heap, r.wf⟩ q2 q
      rcases s with s | s
      · exact .inr ⟨a, xs, rfl, s, by rw [i.length]; exact hl, gNames_ok is hc ρ env h σ H ds xs Q r ⟨i, l⟩ hl k⟩
      · exact .inl ⟨a, xs, rfl, s, by rw [i.length]; exact hl, gNames_ok is hc ρ env h σ H ds xs Q r ⟨i, l⟩ hl k⟩
    · cases e'
  · cases e'
theorem pg_or {e : Expr} {t t' : TG} (h : PG X e t) (h' : PG X e t') : PG X e (fun v σ H Q => t v σ H Q ∨ t' v σ H Q) := ⟨fun pins s σ H v u Q I r q => q.elim (h.run pins s σ H v u Q I r) (h'.run pins s σ H v u Q I r)⟩
def isStarT : Expr → Bool
  | .Starred _ _ => true
  | _ => false
/-- the targets are names -/
theorem assignEach_len : ∀ (es : List Expr) (env : PySem.Env), (∀ e ∈ es, ∃ x p, e = Expr.Name x p) → (assignEach es env).length = es.length ∧ (assignEach es env).findIdx? (·.1) = none
  | [], _, _ => ⟨rfl, rfl⟩
  | e :: es, env, h => by
    obtain ⟨x, p, rfl⟩ := h e List.mem_cons_self
    obtain ⟨h1, h2⟩ := assignEach_len es env fun e he => h e (List.mem_cons_of_mem _ he)
    have z : assignEach (Expr.Name x p :: es) env = (false, assign (Expr.Name x p) env) :: assignEach es env := rfl
    rw [z]
    refine ⟨by rw [List.length_cons, List.length_cons, h1], ?_⟩
    rw [List.findIdx?_cons, h2]; rfl
def asgS (m : EM) (t : Tgt) : SM := fun e h => (m e h).bindS e fun d h1 => match tgt t d e h1 with
  | some e1 => .nxt e1 h1
  | none => .stuck
theorem t_asg {K : KX} {m : EM} {t : Tgt} {g : TG} (hg : TgOk K t g) {D : Ends} {σ : L2.St} {H : Hp} (q : tS K W (asgS m t) D σ H) : tAsg (tE K W m) g D σ H := by
  obtain ⟨ρ, env, h, rl, p⟩ := q
  refine tG_mono (PostS.bind (R := RD K) rl p) fun b H1 ⟨ρ1, h1, a1, x1, ra1, p1⟩ => ?_
  have rl1 := rl.ext x1
  cases e : tgt t a1 env h1 with
  | none => rw [e] at p1; exact p1.elim
  | some e1 =>
    rw [e] at p1
    exact hg ρ1 env e1 h1 σ H1 a1 b D.nx rl1 ra1 e fun σ' r' _ => p1 ρ1 σ' H1 r'.refl r'.eis r'.ewf
theorem ds_set {i : Nat} {x : Str} {e : Expr} {m : EM} {pos pos' : Pos} (hN : X.N.Nodup) (hi : X.N[i]? = some x) (hx : Loc X.env.scope x) (he : DE X W e m) (hn : swapsWith e (some (.Name x pos')) pos.line X.env = pure false) (hf : X.fn x = true ∨ X.env.scope.names.lookup x = some .local) (hc : (kx X W).can i) : DS X W (.Assign [.Name x pos'] e pos) (asgS m (.one i)) :=
  ps_imp (ps_set hN hi hx he hn hf) fun D σ H t => t_asg (tg_one i hc) t
theorem ds_asg {tg e : Expr} {m : EM} {t : Tgt} {g : TG} {pos : Pos} (he : DE X W e m) (hg : PG X tg g) (ok : TgOk (kx X W) t g) (hn : notComp e = true) (hw : swappedStores [tg] e X.env = pure none) (h1 : (assignEach [tg] X.env).map (·.2) = [assign tg X.env]) : DS X W (.Assign [tg] e pos) (asgS m t) :=
  ps_imp (ps_asg he hg (swaps_no hn _ _ _) hw h1) fun D σ H q => t_asg ok q
/-- o[i] = e -/
def setIx (o i d : D) (h : PH) : Option PH := match refLst h o, i with
  | some (n, ds), .int k => (match ixN ds.length k with
    | some j => some (h.put n (.lst (ds.set j d)))
    | none => none)
  | _, _ => none
def sixS (m o i : EM) : SM := fun e h => (m e h).bindS e fun d h1 => (o e h1).bindS e fun x h2 => (i e h2).bindS e fun k h3 => match setIx x k d h3 with
  | some h4 => .nxt e h4
  | none => .stuck
theorem setIx_is {K : KX} {ρ : List Addr} {h h' : PH} {H : Hp} {o i d : D} {x y v : V} {Q : Hp → Prop} (at_ : At K ρ h H) (rx : RD K ρ H h.cs.length o x) (ry : RD K ρ H h.cs.length i y) (rv : RD K ρ H h.cs.length d v) (e : setIx o i d h = some h')
    (k : ∀ H', Ext K ρ H h' ρ H' → Q H') : rSetL x y v H Q := by
  unfold setIx at e
  split at e
  · rename_i n ds j q
    split at e
    · rename_i jj q2
      cases e
      obtain ⟨_, _, a, xs, rfl, ha, h1, i1, l1⟩ := refLst_is at_ q rx
      refine ⟨a, xs, j, jj, rfl, ry.1.int, h1, by rw [i1.length]; exact q2, k _ (put_lst at_ ha (i1.set rv.1 jj) ?_)⟩
      exact Nat.le_trans mrL_set (Nat.max_le.mpr ⟨l1, rv.2⟩)
    · cases e
  · cases e
theorem ds_six {o i e : Expr} {m mo mi : EM} {pos spos : Pos} (he : DE X W e m) (ho : DE X W o mo) (hi : DE X W i mi) (hn : notComp e = true) (hs : isSlice i = false) (ha : ∀ v, assign (.Subscript o i spos) X.env v = (do
      let ov ← holding [v] (eval o X.env)
      let iv ← holding [v, ov] (eval i X.env)
      standAt spos
      holding [v, ov, iv] (setItem ov iv v)
      release [v, ov, iv] [])) (hw : swappedStores [.Subscript o i spos] e X.env = pure none) (h1 : (assignEach [.Subscript o i spos] X.env).map (·.2) = [assign (.Subscript o i spos) X.env]) : DS X W (.Assign [.Subscript o i spos] e pos) (sixS m mo mi) :=
  ps_imp (ps_asg he (pg_sub ho hi set_list ha) (swaps_no hn (some (.Subscript o i spos)) pos.line X.env) hw h1) fun D σ H ⟨ρ, env, h, rl, p⟩ => by
    refine tG_mono (PostS.bind (R := RD (kx X W)) rl p) fun b H1 ⟨ρ1, h1, a1, x1, ra1, p1⟩ => ?_
    have rl1 := rl.ext x1
    refine tG_mono (PostS.bind (R := RD (kx X W)) rl1 p1) fun b2 H2 ⟨ρ2, h2, a2, x2, ra2, p2⟩ => ?_
    have rl2 := rl1.ext x2
    refine tG_mono (PostS.bind (R := RD (kx X W)) rl2 p2) fun b3 H3 ⟨ρ3, h3, a3, x3, ra3, p3⟩ => ?_
    have rl3 := rl2.ext x3
    cases e : setIx a2 a3 a1 h3 with
    | none => rw [e] at p3; exact p3.elim
    | some h4 =>
      rw [e] at p3
      refine setIx_is x3.at (ra2.ext x3 rl2.len) ra3 ((ra1.ext x2 rl1.len).ext x3 rl2.len) e fun H4 x4 => ?_
      have rl4 := rl3.ext x4
      exact p3 ρ3 σ H4 x4 rl4.eis rl4.ewf
end


/-! ### the walked things -/
inductive Src where
  | vals (ds : List D) | cell (n : Nat)
abbrev IM := Env → PH → Res Src
/-- the i-th item: there is none; it is d; not known -/
def Src.item (s : Src) (i : Nat) (h : PH) : Option (Option D) := match s with
  | .vals ds => some ds[i]?
  | .cell n => (match h.cs[n]? with
    | some (.lst ds) => some ds[i]?
    | _ => none)
def Src.fuel (s : Src) (h : PH) : Nat := match s with
  | .vals ds => ds.length + 1
  | .cell n => (match h.cs[n]? with
    | some (.lst ds) => ds.length + 1
    | _ => 0)
/-- an iterator walks it -/
def RS (K : KX) : List Addr → Hp → Nat → Src → It → Prop := fun ρ H n s J => ∀ i ρi hi Hi, Ext K ρ H hi ρi Hi → match s.item i hi with
  | some (some d) => J.go i Hi ∧ ∀ x H', J.yld i Hi x H' → H' = Hi ∧ RD K ρi Hi hi.cs.length d x
  | some none => J.stop i Hi
  | none => True
abbrev DI (X : Cx) (W : WJ) (tg e : Expr) (m : IM) : Prop := PI X tg e (tG (kx X W) W (RS (kx X W)) m)
section
variable {X : Cx} {W : WJ} {tg : Expr}
theorem pi_imp {e : Expr} {t t' : TI} (h : PI X tg e t) (k : ∀ σ H Q, t' σ H Q → t σ H Q) : PI X tg e t' := ⟨fun pins s σ H Q I q => h.run pins s σ H Q I (k σ H Q q)⟩
theorem pi_or {e : Expr} {t t' : TI} (h : PI X tg e t) (h' : PI X tg e t') : PI X tg e (fun σ H Q => t σ H Q ∨ t' σ H Q) := ⟨fun pins s σ H Q I q => q.elim (h.run pins s σ H Q I) (h'.run pins s σ H Q I)⟩
def stuckI : IM := fun _ _ => .stuck
theorem di_stuck {e : Expr} : DI X W tg e stuckI := ⟨fun _ _ _ _ _ _ ⟨_, _, _, _, p⟩ => False.elim p⟩
/-- the signs of a text -/
def signs (x : Str) : List D := x.cps.toList.map fun c => .str ⟨#[c]⟩
def srcF (d : D) (h : PH) : Res Src := match d with
  | .tup ds => .ok (.vals ds) h
  | .frl ds => .ok (.vals ds) h
  | .str x => .ok (.vals (signs x)) h
  | .ref n => (match h.cs[n]? with
    | some (.lst _) => .ok (.cell n) h
    | _ => .stuck)
  | _ => .stuck
def srcE (m : EM) : IM := fun e h => (m e h).bind srcF
theorem IsL.getV {K : KX} {ρ : List Addr} {H : Hp} {ds : List D} {xs : List V} {i : Nat} {d : D} {x : V} (h : IsL K ρ H ds xs) (e : ds[i]? = some d) (e2 : xs[i]? = some x) : Is K ρ H d x := by
  obtain ⟨v, h1, h2⟩ := h.get e
  rw [e2] at h1; cases h1; exact h2
theorem IsL.none {K : KX} {ρ : List Addr} {H : Hp} {ds : List D} {xs : List V} {i : Nat} (h : IsL K ρ H ds xs) (e : ds[i]? = none) : xs.length ≤ i := by
  rw [h.length]; exact List.getElem?_eq_none_iff.mp e
theorem SqT.ext {K : KX} {ρ ρ1 : List Addr} {H H1 : Hp} {h1 : PH} {a : Addr} {xs : List V} (x : Ext K ρ H h1 ρ1 H1) (s : SqT K H a xs) : SqT K H1 a xs := SqT.keep x.kept s
/-- what a value is walked as -/
def WalkV (K : KX) (v : V) (H : Hp) (R : It → Hp → Prop) : Prop := (∃ a, v = .ref a ∧ (∃ xs, SqL K H a xs) ∧ R (Itl K a) H) ∨ (∃ a, v = .ref a ∧ (∃ xs, SqT K H a xs) ∧ R (Itt K a) H) ∨ ∃ x, v = .str x ∧ R (Its x) H
theorem pi_any {l : Expr} {tl : TE} (hl : PE X l tl) : PI X tg l (fun σ H R => tl σ H fun v H1 => WalkV (kx X W) v H1 R) := by
  refine ⟨fun pins s σ H R I h => ?_⟩
  refine thn (hl.run pins s σ H _ I h) fun v s1 ⟨x, H1, I1, r1, q1⟩ => ?_
  have fp : ∀ b ∈ [s1.heap.objs.size], FpOk X pins H1 b := fun b hb => by
    have e : b = s1.heap.objs.size := by simpa using hb
    subst e
    exact I1.fpOk (Nat.le_refl _) (I1.hok.fresh (Nat.le_refl _))
  rcases q1 with ⟨a, e, ⟨xs, hq⟩, q⟩ | ⟨a, e, ⟨xs, hq⟩, q⟩ | ⟨z, e, q⟩
  · subst e
    cases r1
    obtain ⟨its, rv, p, hz⟩ := I1.list hq
    refine wpAny_pyIter_list p.isList ?_
    exact ⟨s1.heap.objs.size, [s1.heap.objs.size], _, _, H1, rfl, I1.kept (t' := s1.toks) fun b o e => Heap.get?_push_of_some _ e, turn_list a _, ⟨_, Heap.get?_push_size _ rfl, rfl, rfl⟩, fp, q⟩
  · subst e
    cases r1
    obtain ⟨its, rv, p, hz⟩ := I1.tuple hq
    refine wpAny_pyIter_tuple (show s1.heap.IsTuple a its.toArray from p) ?_
    exact ⟨s1.heap.objs.size, [s1.heap.objs.size], _, _, H1, rfl, I1.kept (t' := s1.toks) fun b o e => Heap.get?_push_of_some _ e, turn_tuple a _, ⟨_, Heap.get?_push_size _ rfl, rfl, rfl⟩, fp, q⟩
  · subst e
    obtain ⟨t, rfl⟩ := r1
    cases ha : z.cps.all (· < 128)
    · exact wpAny_pyIter_wide ha (pi_one (tk := s1.toks) I1 _ (turn_str _ z t "str_iterator" (.inr rfl)) ⟨_, Heap.get?_push_size _ rfl, rfl, rfl⟩ q)
    · exact wpAny_pyIter_ascii ha (pi_one (tk := s1.toks) I1 _ (turn_str _ z t "str_ascii_iterator" (.inl rfl)) ⟨_, Heap.get?_push_size _ rfl, rfl, rfl⟩ q)
/-- over a tuple, a list, a text -/
theorem di_expr {e : Expr} {m : EM} (he : DE X W e m) : DI X W tg e (srcE m) := pi_imp (pi_any he) fun σ H R ⟨ρ, env, h, rl, p⟩ => by
    refine tG_mono (PostG.bind (R := RD (kx X W)) rl p) fun v H1 ⟨ρ1, h1, d, x1, r1, p1⟩ => ?_
    cases d with
    | tup ds =>
      obtain ⟨a, xs, rfl, s, i⟩ := r1.1.tup
      refine .inr (.inl ⟨a, rfl, ⟨xs, s⟩, p1 ρ1 _ H1 x1.at.refl fun j ρj hj Hj xj => ?_⟩)
      have ij := xj.isL (by rw [x1.at.heap.len]; exact r1.2) i
      show match some ds[j]? with | some (some d) => _ | some none => _ | none => True
      cases e : ds[j]? with
      | some d =>
        obtain ⟨v, e1, e2⟩ := ij.get e
        refine ⟨⟨xs, v, SqT.ext xj s, e1⟩, fun x H' y => ⟨y.1, ij.getV e (y.2 xs (SqT.ext xj s)), ?_⟩⟩
        have l : mrL ds ≤ h1.cs.length := r1.2
        have := mrL_get e; have := xj.le; rw [x1.at.heap.len] at this; omega
      | none => exact ⟨xs, SqT.ext xj s, ij.none e⟩
    | frl ds =>
      obtain ⟨a, xs, rfl, s, i⟩ := r1.1.frl
      refine .inl ⟨a, rfl, ⟨xs, s.sq⟩, p1 ρ1 _ H1 x1.at.refl fun j ρj hj Hj xj => ?_⟩
      have ij := xj.isL (by rw [x1.at.heap.len]; exact r1.2) i
      have sj := (FrzL.keep xj.kept s).sq
      show match some ds[j]? with | some (some d) => _ | some none => _ | none => True
      cases e : ds[j]? with
      | some d =>
        obtain ⟨v, e1, e2⟩ := ij.get e
        refine ⟨⟨xs, v, sj, e1⟩, fun x H' y => ⟨y.1, ij.getV e (y.2 xs sj), ?_⟩⟩
        have l : mrL ds ≤ h1.cs.length := r1.2
        have := mrL_get e; have := xj.le; rw [x1.at.heap.len] at this; omega
      | none => exact ⟨xs, sj, ij.none e⟩
    | str z =>
      refine .inr (.inr ⟨z, r1.1.str, p1 ρ1 _ H1 x1.at.refl fun j ρj hj Hj xj => ?_⟩)
      show match some (signs z)[j]? with | some (some d) => _ | some none => _ | none => True
      unfold signs
      rw [List.getElem?_map]
      cases e : z.cps.toList[j]? with
      | some c =>
        have hj' : j < z.cps.size := by
          have := (List.getElem?_eq_some_iff.mp e).1
          rw [Array.length_toList] at this; exact this
        refine ⟨hj', fun x H' y => ⟨y.1, ?_⟩⟩
        obtain ⟨_, c', e1, e2⟩ := y
        subst e2
        rw [← Array.getElem?_toList, e] at e1
        cases e1
        exact is_str
      | none =>
        have := List.getElem?_eq_none_iff.mp e
        rw [Array.length_toList] at this
        exact this
    | ref n =>
      have p1 : PostG (kx X W) W (RS (kx X W)) σ R ρ1 H1 (match h1.cs[n]? with | some (.lst _) => .ok (.cell n) h1 | _ => .stuck) := p1
      cases e0 : h1.cs[n]? with
      | none => rw [e0] at p1; exact p1.elim
      | some c =>
        rw [e0] at p1
        cases c with
        | lst ds =>
          obtain ⟨a, xs, rfl, ha, hl, i, l⟩ := x1.at.lst e0 r1.1
          refine .inl ⟨a, rfl, ⟨xs, SqL.of hl⟩, p1 ρ1 _ H1 x1.at.refl fun j ρj hj Hj xj => ?_⟩
          show match (match hj.cs[n]? with | some (.lst ds) => some ds[j]? | _ => none) with | some (some d) => _ | some none => _ | none => True
          cases e2 : hj.cs[n]? with
          | none => trivial
          | some c2 =>
            cases c2 with
            | lst es =>
              have haj := xj.at_ n (List.getElem?_eq_some_iff.mp ha).1 a ha
              obtain ⟨a', ys, ea, _, hl2, i2, l2⟩ := xj.at.lst (v := .ref a) e2 (by unfold Is; exact ⟨a, haj, rfl⟩)
              cases ea
              show match some es[j]? with | some (some d) => _ | some none => _ | none => True
              cases e : es[j]? with
              | some d =>
                obtain ⟨v, e1, _⟩ := i2.get e
                refine ⟨⟨ys, v, SqL.of hl2, e1⟩, fun x H' y => ⟨y.1, i2.getV e (y.2 ys (SqL.of hl2)), Nat.le_trans (mrL_get e) l2⟩⟩
              | none => exact ⟨ys, SqL.of hl2, i2.none e⟩
            | inst _ _ => trivial
            | dict _ => trivial
        | inst _ _ => exact p1.elim
        | dict _ => exact p1.elim
    | non => exact p1.elim
    | bl _ => exact p1.elim
    | int _ => exact p1.elim
    | ty _ => exact p1.elim
    | glb _ => exact p1.elim
/-! ranges -/
/-- i, i + c, .. (n of them) -/
def rangeD (i c : Int) (n : Nat) : List D := (List.range n).map fun (k : Nat) => .int (i + (k : Int) * c)
def in62 (i : Int) : Bool := Nat.ble i.natAbs 4611686018427387903
theorem in62_is {i : Int} (h : in62 i = true) : -(2 ^ 62) ≤ i ∧ i < 2 ^ 62 := by
  have z : i.natAbs ≤ 4611686018427387903 := Nat.le_of_ble_eq_true h
  omega
theorem rs_range {K : KX} {ρ : List Addr} {H : Hp} {m : Nat} {i c : Int} {n : Nat} {J : It} (hgo : ∀ k H', k < n → J.go k H') (hy : ∀ k H' x H'', J.yld k H' x H'' → H'' = H' ∧ x = .int (i + (k : Nat) * c)) (hs : ∀ k H', n ≤ k → J.stop k H') : RS K ρ H m (.vals (rangeD i c n)) J := fun k ρk hk Hk xk => by
  show match some (rangeD i c n)[k]? with | some (some d) => _ | some none => _ | none => True
  unfold rangeD
  rw [List.getElem?_map]
  cases e : (List.range n)[k]? with
  | some z =>
    have hl := (List.getElem?_eq_some_iff.mp e).1
    rw [List.length_range] at hl
    rw [List.getElem?_range hl] at e
    cases e
    refine ⟨hgo k Hk hl, fun x H' y => ?_⟩
    obtain ⟨y1, y2⟩ := hy k Hk x H' y
    rw [y2]
    exact ⟨y1, is_int⟩
  | none =>
    have := List.getElem?_eq_none_iff.mp e
    rw [List.length_range] at this
    exact hs k Hk this
def rangeF1 (ds : List D) (h : PH) : Res Src := match ds with
  | [.int j] => if in62 j = true then .ok (.vals (rangeD 0 1 j.toNat)) h else .stuck
  | _ => .stuck
def rangeF2 (ds : List D) (h : PH) : Res Src := match ds with
  | [.int i, .int j] => if in62 i = true ∧ in62 j = true then .ok (.vals (rangeD i 1 (j - i).toNat)) h else .stuck
  | _ => .stuck
def rangeF3 (ds : List D) (h : PH) : Res Src := match ds with
  | [.int i, .int j, .int c] => if c = -1 ∧ in62 i = true ∧ in62 j = true then .ok (.vals (rangeD i (-1) (i - j).toNat)) h else .stuck
  | _ => .stuck
def rngE (f : List D → PH → Res Src) (m : AM) : IM := fun e h => (m e h).bind f
theorem IsL.two {K : KX} {ρ : List Addr} {H : Hp} {d e : D} {xs : List V} (h : IsL K ρ H [d, e] xs) : ∃ v u, xs = [v, u] ∧ Is K ρ H d v ∧ Is K ρ H e u := by
  unfold IsL at h
  obtain ⟨x, r, rfl, h1, h2⟩ := h
  obtain ⟨u, rfl, h3⟩ := h2.one
  exact ⟨x, u, rfl, h1, h3⟩
theorem di_range1 {a : Expr} {p pos : Pos} {m : AM} (hg : Gl X "range") (hm : X.mg "range" = none) (ha : DA X W [a] m) (hs : noStars [a] = true) : DI X W tg (.Call (.Name "range" p) [a] [] pos) (rngE rangeF1 m) :=
  pi_imp (pi_range1 hg hm ha (star_no (noStars_head hs).1 [] _)) fun σ H R ⟨ρ, env, h, rl, p⟩ => by
    refine tG_mono (PostG.bind (R := RL (kx X W)) rl p) fun vs H1 ⟨ρ1, h1, d, x1, r1, p1⟩ => ?_
    unfold rangeF1 at p1
    split at p1
    · rename_i j
      split at p1
      · rename_i c
        obtain ⟨v, rfl, iv⟩ := r1.1.one
        obtain ⟨c1, c2⟩ := in62_is c
        exact ⟨j, by rw [iv.int], c1, c2, p1 ρ1 _ H1 x1.at.refl (rs_range (fun k H' hk => hk) (fun k H' x H'' y => ⟨y.1, by rw [y.2, Int.mul_one]⟩) fun k H' hk => hk)⟩
      · exact p1.elim
    · exact p1.elim
theorem di_range2 {a b : Expr} {p pos : Pos} {m : AM} (hg : Gl X "range") (hm : X.mg "range" = none) (ha : DA X W [a, b] m) (hs : noStars [a, b] = true) : DI X W tg (.Call (.Name "range" p) [a, b] [] pos) (rngE rangeF2 m) :=
  pi_imp (pi_range2 hg hm ha (by rw [star_no (noStars_head hs).1 [b] _, star_no (noStars_head (noStars_head hs).2).1 [] _]; rfl) (star_no (noStars_head (noStars_head hs).2).1 [] _)) fun σ H R ⟨ρ, env, h, rl, p⟩ => by
    refine tG_mono (PostG.bind (R := RL (kx X W)) rl p) fun vs H1 ⟨ρ1, h1, d, x1, r1, p1⟩ => ?_
    unfold rangeF2 at p1
    split at p1
    · rename_i i j
      split at p1
      · rename_i c
        obtain ⟨v, u, rfl, iv, iu⟩ := r1.1.two
        obtain ⟨c1, c2⟩ := in62_is c.1
        obtain ⟨c3, c4⟩ := in62_is c.2
        exact ⟨i, j, by rw [iv.int, iu.int], ⟨c1, c2, c3, c4⟩, p1 ρ1 _ H1 x1.at.refl (rs_range (fun k H' hk => hk) (fun k H' x H'' y => ⟨y.1, by rw [y.2, Int.mul_one]⟩) fun k H' hk => hk)⟩
      · exact p1.elim
    · exact p1.elim
theorem di_range3 {a b c : Expr} {p pos : Pos} {m : AM} (hg : Gl X "range") (hm : X.mg "range" = none) (ha : DA X W [a, b, c] m) (hs : noStars [a, b, c] = true) : DI X W tg (.Call (.Name "range" p) [a, b, c] [] pos) (rngE rangeF3 m) :=
  pi_imp (pi_range3 hg hm ha (star_no (noStars_head hs).1 [b, c] _) (noStars_any (noStars_head hs).2 pos _)) fun σ H R ⟨ρ, env, h, rl, p⟩ => by
    refine tG_mono (PostG.bind (R := RL (kx X W)) rl p) fun vs H1 ⟨ρ1, h1, d, x1, r1, p1⟩ => ?_
    unfold rangeF3 at p1
    split at p1
    · rename_i i j k
      split at p1
      · rename_i cc
        obtain ⟨cc0, cc1, cc2⟩ := cc
        subst cc0
        have r0 := r1.1
        unfold IsL at r0
        obtain ⟨v, r, rfl, iv, r0⟩ := r0
        obtain ⟨u, w, rfl, iu, iw⟩ := r0.two
        obtain ⟨c1, c2⟩ := in62_is cc1
        obtain ⟨c3, c4⟩ := in62_is cc2
        exact ⟨i, j, -1, (i - j).toNat, by rw [iv.int, iu.int, iw.int], RgC.neg c1 c2 c3 c4, p1 ρ1 _ H1 x1.at.refl (rs_range (fun k H' hk => hk) (fun k H' x H'' y => ⟨y.1, y.2⟩) fun k H' hk => hk)⟩
      · exact p1.elim
    · exact p1.elim
/-! reversed(x), x a tuple or a known list -/
def revSrc (d : D) (h : PH) : Res Src := match d with
  | .tup ds => .ok (.vals ds.reverse) h
  | .frl ds => .ok (.vals ds.reverse) h
  | _ => .stuck
def revE (m : EM) : IM := fun e h => (m e h).bind revSrc
theorem rev_get {α : Type} (ds : List α) (j : Nat) (h : j < ds.length) : ds.reverse[j]? = ds[ds.length - 1 - j]? := by
  rw [List.getElem?_reverse h]
theorem di_rev {e : Expr} {p pos : Pos} {m : EM} (hg : Gl X "reversed") (hm : X.mg "reversed" = none) (he : DE X W e m) (hs : noStars [e] = true) : DI X W tg (.Call (.Name "reversed" p) [e] [] pos) (revE m) :=
  pi_imp (RT.pi_revA hg hm he (star_no (noStars_head hs).1 [] _)) fun σ H R ⟨ρ, env, h, rl, p⟩ => by
    refine tG_mono (PostG.bind (R := RD (kx X W)) rl p) fun v H1 ⟨ρ1, h1, d, x1, r1, p1⟩ => ?_
    cases d with
    | tup ds =>
      obtain ⟨a, xs, rfl, s, i⟩ := r1.1.tup
      refine ⟨a, xs, rfl, .inr ⟨s, p1 ρ1 _ H1 x1.at.refl fun j ρj hj Hj xj => ?_⟩⟩
      have ij := xj.isL (by rw [x1.at.heap.len]; exact r1.2) i
      have sj := SqT.ext xj s
      show match some ds.reverse[j]? with | some (some d) => _ | some none => _ | none => True
      by_cases hlt : j < ds.length
      · rw [rev_get ds j hlt]
        cases e : ds[ds.length - 1 - j]? with
        | some d =>
          obtain ⟨v, e1, e2⟩ := ij.get e
          rw [← i.length] at e1
          refine ⟨⟨by rw [i.length]; exact hlt, xs, v, sj, e1⟩, fun x H' y => ⟨y.1, ?_, ?_⟩⟩
          · have := y.2 xs sj
            rw [e1] at this; cases this; exact e2
          · have l : mrL ds ≤ h1.cs.length := r1.2
            have := mrL_get e; have := xj.le; rw [x1.at.heap.len] at this; omega
        | none => have := List.getElem?_eq_none_iff.mp e; omega
      · have e : ds.reverse[j]? = none := List.getElem?_eq_none (by rw [List.length_reverse]; omega)
        rw [e]
        show xs.length ≤ j
        rw [i.length]; omega
    | frl ds =>
      obtain ⟨a, xs, rfl, s, i⟩ := r1.1.frl
      refine ⟨a, xs, rfl, .inl ⟨s.sq, p1 ρ1 _ H1 x1.at.refl fun j ρj hj Hj xj => ?_⟩⟩
      have ij := xj.isL (by rw [x1.at.heap.len]; exact r1.2) i
      have sj := (FrzL.keep xj.kept s).sq
      show match some ds.reverse[j]? with | some (some d) => _ | some none => _ | none => True
      by_cases hlt : j < ds.length
      · rw [rev_get ds j hlt]
        cases e : ds[ds.length - 1 - j]? with
        | some d =>
          obtain ⟨v, e1, e2⟩ := ij.get e
          rw [← i.length] at e1
          refine ⟨⟨by rw [i.length]; exact hlt, xs, v, sj, e1⟩, fun x H' y => ⟨y.1, ?_, ?_⟩⟩
          · have := y.2 xs sj
            rw [e1] at this; cases this; exact e2
          · have l : mrL ds ≤ h1.cs.length := r1.2
            have := mrL_get e; have := xj.le; rw [x1.at.heap.len] at this; omega
        | none => have := List.getElem?_eq_none_iff.mp e; omega
      · have e : ds.reverse[j]? = none := List.getElem?_eq_none (by rw [List.length_reverse]; omega)
        rw [e]
        show xs.length ≤ j
        rw [i.length]; omega
    | _ => exact p1.elim

/-! ### for -/
def mrE : Env → Nat
  | [] => 0
  | some d :: r => max d.mr (mrE r)
  | none :: r => mrE r
theorem mrE_wf : ∀ {env : Env} {n : Nat}, mrE env ≤ n → EnvWf env n
  | [], n, _ => fun i d e => by simp at e
  | o :: r, n, h => fun i d e => by
    cases i with
    | zero =>
      have e' : o = some d := by simpa using e
      subst e'
      unfold mrE at h; omega
    | succ i =>
      have e' : r[i]? = some (some d) := by simpa using e
      have h' : mrE r ≤ n := by cases o <;> unfold mrE at h <;> omega
      exact mrE_wf h' i d e'
theorem mrE_of : ∀ {env : Env} {n : Nat}, EnvWf env n → mrE env ≤ n
  | [], n, _ => Nat.zero_le _
  | o :: r, n, h => by
    have h2 := mrE_of (env := r) (n := n) fun i d e => h (i + 1) d (by simpa using e)
    cases o with
    | none => exact h2
    | some d =>
      have := h 0 d (by simp)
      unfold mrE; omega
/-- the state behind a turn: what nothing names any more is dropped -/
def PH.gc (h : PH) (l : Nat) (env : Env) : PH := h.cut (max l (max h.lim (mrE env)))
def forL (t : Tgt) (body : SM) (s : Src) (l : Nat) : Nat → Nat → Env → PH → Out
  | 0, _, _, _ => .stuck
  | f + 1, i, e, h => match s.item i h with
    | none => .stuck
    | some none => .nxt e h
    | some (some d) => (match tgt t d e h with
      | none => .stuck
      | some e1 => (match body e1 h with
        | .nxt e2 h2 => forL t body s l f (i + 1) e2 (h2.gc l e2)
        | .cnt e2 h2 => forL t body s l f (i + 1) e2 (h2.gc l e2)
        | .brk e2 h2 => .nxt e2 h2
        | .ret d h2 => .ret d h2
        | .exc c e2 h2 => .exc c e2 h2
        | .stuck => .stuck))
def forS (m : IM) (t : Tgt) (body : SM) : SM := fun e h => (m e h).bindS e fun s h1 => forL t body s h1.cs.length (s.fuel h1) 0 e h1
theorem EnvIs.cut {K : KX} {ρ : List Addr} {H : Hp} {env : Env} {σ : L2.St} {n : Nat} (w : EnvWf env n) (h : EnvIs K ρ H env σ) : EnvIs K (ρ.take n) H env σ :=
  ⟨h.len, (fun i d e => let ⟨v, e1, e2⟩ := h.at_ i d e; ⟨v, e1, Is.cut (w i d e) e2⟩), h.inv⟩
/-- behind a turn: the state that is cut still goes beyond the loop's start -/
theorem gc_ok {K : KX} {ρ ρ2 : List Addr} {H H2 : Hp} {h2 : PH} {env : Env} {σ : L2.St} (x : Ext K ρ H h2 ρ2 H2) (e : EnvIs K ρ2 H2 env σ) (w : EnvWf env h2.cs.length) :
    ∃ ρ3, Ext K ρ H (h2.gc ρ.length env) ρ3 H2 ∧ EnvIs K ρ3 H2 env σ ∧ EnvWf env (h2.gc ρ.length env).cs.length := by
  have hm : mrE env ≤ max ρ.length (max h2.lim (mrE env)) := by omega
  refine ⟨ρ2.take (max ρ.length (max h2.lim (mrE env))), x.cut (by omega) (by omega), e.cut (mrE_wf hm), ?_⟩
  have h1 := mrE_of w
  have h3 := x.wf.le
  have h4 := x.le
  refine mrE_wf ?_
  show mrE env ≤ (h2.cs.take _).length
  rw [List.length_take]; omega
theorem ds_for {iter tg : Expr} {body : List Stmt} {m : IM} {t : Tgt} {g : TG} {b : SM} {pos : Pos} (hp : PassesOwn (model X.prog X.w) X.A X.env X.xe) (hc : X.calm = true) (hi : DI X W tg iter m) (hg : PG X tg g) (ok : TgOk (kx X W) t g) (hb : DSs X W body b)
    (hs : ∀ x, foldedSetIterable iter X.env x = pure x) : DS X W (.For tg iter body [] pos) (forS m t b) := ps_imp (ps_for hp hc hi hg hb hs) fun D σ H ⟨ρ, env, h, rl, p⟩ => by
  refine tG_mono (PostS.bind (R := RS (kx X W)) rl p) fun J H1 ⟨ρ1, h1, s, x1, rs, p1⟩ => ?_
  have rl1 := rl.ext x1
  rw [← rl1.len] at p1
  refine ⟨fun i n σ' H' => ∃ ρi e hi, Ext (kx X W) ρ1 H1 hi ρi H' ∧ EnvIs (kx X W) ρi H' e σ' ∧ EnvWf e hi.cs.length ∧ PostS (kx X W) W D ρ1 H1 (forL t b s ρ1.length n i e hi), ⟨_, ρ1, env, h1, x1.at.refl, rl1.eis, rl1.ewf, p1⟩, ?_⟩
  rintro i n σ' H' ⟨ρi, e, hi, xi, ei, wi, pi⟩
  cases n with
  | zero => exact pi.elim
  | succ n =>
    have q := rs i ρi hi H' xi
    unfold forL at pi
    split at pi
    · exact pi.elim
    · rename_i e0
      rw [e0] at q
      exact .inl ⟨q, pi ρi σ' H' xi ei wi⟩
    · rename_i d e0
      rw [e0] at q
      obtain ⟨go, yld⟩ := q
      refine .inr ⟨go, fun σ2 H2 => ∃ m', m' < n + 1 ∧ ∃ ρi e hi, Ext (kx X W) ρ1 H1 hi ρi H2 ∧ EnvIs (kx X W) ρi H2 e σ2 ∧ EnvWf e hi.cs.length ∧ PostS (kx X W) W D ρ1 H1 (forL t b s ρ1.length m' (i + 1) e hi), fun σ2 H2 w => w, fun x H'' y => ?_⟩
      obtain ⟨e1, rd⟩ := yld x H'' y
      subst e1
      split at pi
      · exact pi.elim
      · rename_i en1 e2
        have rli : Rel (kx X W) ρi e hi σ' H'' := ⟨ei, xi.rel, xi.wf, wi⟩
        refine ok ρi e en1 hi σ' H'' d x _ rli rd e2 fun σ3 r3 _ => ?_
        refine ⟨ρi, en1, hi, r3, ?_⟩
        split at pi
        · rename_i e4 h4 eb
          rw [eb]
          intro ρ4 σ4 H4 x4 ei4 w4
          obtain ⟨ρ5, x5, ei5, w5⟩ := gc_ok (xi.trans x4) ei4 w4
          exact ⟨n, Nat.lt_succ_self n, ρ5, e4, _, x5, ei5, w5, pi⟩
        · rename_i e4 h4 eb
          rw [eb]
          intro ρ4 σ4 H4 x4 ei4 w4
          obtain ⟨ρ5, x5, ei5, w5⟩ := gc_ok (xi.trans x4) ei4 w4
          exact ⟨n, Nat.lt_succ_self n, ρ5, e4, _, x5, ei5, w5, pi⟩
        · rename_i e4 h4 eb
          rw [eb]
          exact fun ρ4 σ4 H4 x4 ei4 w4 => pi ρ4 σ4 H4 (xi.trans x4) ei4 w4
        · rename_i d4 h4 eb
          rw [eb]
          exact fun ρ4 v4 H4 x4 r4 => pi ρ4 v4 H4 (xi.trans x4) r4
        · rename_i c4 e4 h4 eb
          rw [eb]
          exact fun ρ4 σ4 H4 x4 ei4 w4 => pi ρ4 σ4 H4 (xi.trans x4) ei4 w4
        · exact pi.elim
/-! ### while -/
def whileL (t : TM) (body : SM) (l : Nat) : Nat → Env → PH → Out
  | 0, _, _ => .stuck
  | f + 1, e, h => (t e h).bindS e fun c h1 => match c with
    | false => .nxt e h1
    | true => (match body e h1 with
        | .nxt e2 h2 => whileL t body l f e2 (h2.gc l e2)
        | .cnt e2 h2 => whileL t body l f e2 (h2.gc l e2)
        | .brk e2 h2 => .nxt e2 h2
        | .ret d h2 => .ret d h2
        | .exc c e2 h2 => .exc c e2 h2
        | .stuck => .stuck)
def whileS (f : Nat) (t : TM) (body : SM) : SM := fun e h => whileL t body h.cs.length f e h
theorem PostS.bind2 {K : KX} {α β : Type} {R : List Addr → Hp → Nat → α → β → Prop} {σ : L2.St} {ρ ρi : List Addr} {H H' : Hp} {hi : PH} {env : Env} {m : Env → PH → Res α} {k : α → PH → Out} {D : Ends} (x : Ext K ρ H hi ρi H') (r : Rel K ρi env hi σ H') (p : PostS K W D ρ H ((m env hi).bindS env k)) :
    tG K W R m σ H' fun b H1 => ∃ ρ1 h1 a, Ext K ρi H' h1 ρ1 H1 ∧ R ρ1 H1 h1.cs.length a b ∧ PostS K W D ρ H (k a h1) := by
  refine ⟨ρi, env, hi, r, ?_⟩
  cases e : m env hi with
  | ok a h1 =>
    rw [e] at p
    exact fun ρ' b H' x rb => ⟨ρ', h1, a, x, rb, p⟩
  | exc c h1 =>
    rw [e] at p
    exact fun ρ' H2 x2 => p ρ' σ H2 (x.trans x2) (x2.envIs (by rw [r.len]; exact r.ewf) r.eis) (r.ewf.mono (by have := x2.le; rw [r.len] at this; exact this))
  | stuck =>
    rw [e] at p
    exact p
theorem ds_while {f : Nat} {c : Expr} {body : List Stmt} {t : TM} {b : SM} {pos : Pos} (hp : PassesOwn (model X.prog X.w) X.A X.env X.xe) (hc : DT X W c t) (hb : DSs X W body b) : DS X W (.While c body [] pos) (whileS f t b) := ps_imp (ps_while hp hc hb) fun D σ H ⟨ρ, env, h, rl, p⟩ => by
  unfold whileS at p
  rw [← rl.len] at p
  refine ⟨fun n σ' H' => ∃ ρi e hi, Ext (kx X W) ρ H hi ρi H' ∧ EnvIs (kx X W) ρi H' e σ' ∧ EnvWf e hi.cs.length ∧ PostS (kx X W) W D ρ H (whileL t b ρ.length n e hi), ⟨_, ρ, env, h, rl.refl, rl.eis, rl.ewf, p⟩, ?_⟩
  rintro n σ' H' ⟨ρi, e, hi, xi, ei, wi, pi⟩
  cases n with
  | zero => exact pi.elim
  | succ n =>
    have rli : Rel (kx X W) ρi e hi σ' H' := ⟨ei, xi.rel, xi.wf, wi⟩
    unfold whileL at pi
    refine tG_mono (PostS.bind2 (R := RB) xi rli pi) fun k H1 ⟨ρ1, h1, d, x1, r1, p1⟩ => ?_
    have e0 : d = k := r1
    subst e0
    have rl1 := rli.ext x1
    have xi1 := xi.trans x1
    cases d with
    | false => exact iteF (p1 ρ1 σ' H1 xi1 rl1.eis rl1.ewf)
    | true =>
      refine iteT ⟨fun σ2 H2 => ∃ m', m' < n + 1 ∧ ∃ ρi e hi, Ext (kx X W) ρ H hi ρi H2 ∧ EnvIs (kx X W) ρi H2 e σ2 ∧ EnvWf e hi.cs.length ∧ PostS (kx X W) W D ρ H (whileL t b ρ.length m' e hi), fun σ2 H2 w => w, ?_⟩
      refine ⟨ρ1, e, h1, rl1, ?_⟩
      dsimp only at p1
      split at p1
      · rename_i e4 h4 eb
        rw [eb]
        intro ρ4 σ4 H4 x4 ei4 w4
        obtain ⟨ρ5, x5, ei5, w5⟩ := gc_ok (xi1.trans x4) ei4 w4
        exact ⟨n, Nat.lt_succ_self n, ρ5, e4, _, x5, ei5, w5, p1⟩
      · rename_i e4 h4 eb
        rw [eb]
        intro ρ4 σ4 H4 x4 ei4 w4
        obtain ⟨ρ5, x5, ei5, w5⟩ := gc_ok (xi1.trans x4) ei4 w4
        exact ⟨n, Nat.lt_succ_self n, ρ5, e4, _, x5, ei5, w5, p1⟩
      · rename_i e4 h4 eb
        rw [eb]
        exact fun ρ4 σ4 H4 x4 ei4 w4 => p1 ρ4 σ4 H4 (xi1.trans x4) ei4 w4
      · rename_i d4 h4 eb
        rw [eb]
        exact fun ρ4 v4 H4 x4 r4 => p1 ρ4 v4 H4 (xi1.trans x4) r4
      · rename_i c4 e4 h4 eb
        rw [eb]
        exact fun ρ4 σ4 H4 x4 ei4 w4 => p1 ρ4 σ4 H4 (xi1.trans x4) ei4 w4
      · exact p1.elim
end
end Dy

/-! Comprehensions whose elements may raise. -/
namespace L2
open PySem PySem.Spec PyProof.Rows
/-- the context of a block, its elements wishing E of what they raise -/
abbrev Cx.blkX (X : Cx) (u : Shared) (J : Hp) (scope : Scope) (ce : PySem.Env) (fp : List Addr) (E : Value → Shared → Prop) : Cx := { X.blk u J scope ce fp with xe := E }
section
variable {X : Cx} {pins : List (Addr × Obj)} {σ : St} {H : Hp} {s : Shared}
theorem Inv.toX {u : Shared} {J : Hp} {scope : Scope} {ce : PySem.Env} {fp : List Addr} {E : Value → Shared → Prop} (I : Inv (X.blk u J scope ce fp) pins σ H s) : Inv (X.blkX u J scope ce fp E) pins σ H s := by
  obtain ⟨i1, i2, i3, i4, i5, i6, i7, i8, i9, i10, i11⟩ := I
  refine ⟨?_, i2, i3, i4, i5, i6, i7, i8, i9, i10, i11⟩
  cases i1
  constructor <;> assumption
/-- noted by another frame: noted again -/
theorem look_offZ {M : Model} {A : Around} {E : Value → Shared → Prop} {base : Heap} {env : PySem.Env} {outer : List PySem.Env} {e L L' : Addr} {Z : Obj → Prop} {Q : Unit → Shared → Prop} (hZ : HandSPX.Steady Z) (hfr : A.frames = some (env :: outer)) (hf : env.frame = some L) (hne : L' ≠ L)
    (hh : HandSPX.HeldZ base (env :: outer) e Z L' s.heap) (hQ : ∀ h', HandSPX.HeldZ base (env :: outer) e Z L h' → s.heap.UpToSlots h' → Q () { s with heap := h' }) : wpAny M A (noteFrame (.ref e) env) Q E s := by
  obtain ⟨b1, b2, b3, oe, vs, T, oT, ts, c1, c2, c3, c4, c5, c6, c7, c8, c9⟩ := hh
  unfold noteFrame
  simp only [hf]
  refine wpAny_bind (wpAny_field c1 c3 c4 ?_)
  rw [if_pos (by simp : (Value.ref T != Value.none) = true)]
  refine wpAny_bind (wpAny_field c7 c8 c9 ?_)
  rw [if_neg (fun z => hne (by have q := eq_of_beq z; simp only [rawInt, Value.int.injEq] at q; exact Int.ofNat.inj q.1))]
  refine wpAny_bind (wpAny_setField c7 c8 (Array.getElem?_eq_some_iff.mp c9).1 ?_)
  have oth : ∀ b, b ≠ T → (s.heap.update T (Obj.mapFields (·.setIfInBounds 3 Value.none))).get? b = s.heap.get? b := fun b q => Heap.get?_update_other _ _ q.symm
  have nrec : ∀ b o, s.heap.get? b = some o → (∀ vs, o.data ≠ .fields vs) → b ≠ T := fun b o g nf q => by
    subst q
    rw [c7] at g
    cases g
    exact nf ts c8
  refine HandSPX.wpAny_entryZ hZ hfr (b3.of_keeps fun b o g nf => ⟨o, (oth b (nrec b o g nf)).trans g, rfl⟩) hf ((oth e c6.symm).trans c1)
    (fun b o g => (oth b fun q => by subst q; rw [c5] at g; cases g).trans (b1 b o g)) b2 c3 (Array.getElem?_eq_some_iff.mp c4).1 c2 fun h' hN => ?_
  obtain ⟨n1, n2, n3, n4⟩ := hN
  exact hQ h' ⟨n1, b2, n2, n3⟩ fun b o g nf => n4 b o ((oth b (nrec b o g nf)).trans g) nf
/-- whatever its flight: noted by this frame -/
theorem Sky.note {M : Model} {A : Around} {E : Value → Shared → Prop} {B : Heap} {env : PySem.Env} {outer : List PySem.Env} {a L L' : Addr} {Z : Obj → Prop} {Q : Unit → Shared → Prop} (hZ : HandSPX.Steady Z) (hfr : A.frames = some (env :: outer)) (hf : env.frame = some L)
    (x : Sky B (env :: outer) a Z L' s.heap) (hQ : ∀ h', HandSPX.HeldZ B (env :: outer) a Z L h' → s.heap.UpToSlots h' → Q () { s with heap := h' }) : wpAny M A (noteFrame (.ref a) env) Q E s := by
  rcases x with ⟨y1, y2, y3, oe, vs, y4, y5, y6, y7⟩ | fl | hh
  · exact HandSPX.look_newZ hZ hfr y3 hf y4 y1 y2 y6 y7 y5 hQ
  · exact HandSPX.looks_onZ hZ hfr hf fl hQ
  · by_cases q : L' = L
    · subst q
      exact HandSPX.againZ hf hh.2.2.2 (hQ s.heap hh (Heap.UpToSlots.refl _))
    · exact look_offZ hZ hfr hf q hh hQ
theorem traced_but {h h' base base' : Heap} {C e : Addr} {Z : Obj → Prop} {fl : Value} {m : Str → Option Value} (t : HandSPX.TracedZ h base e Z fl) (hn : h.Ns C m) (sb : Heap.SameBut C h h') (hb : ∀ b, base.get? b = none → base'.get? b = none) : HandSPX.TracedZ h' base' e Z fl := by
  obtain ⟨oe, vs, T, oT, ts, c1, c2, c3, c4, c5, c6, c7, c8, c9⟩ := t
  obtain ⟨o, es, ep, n1, n2, _⟩ := hn
  refine ⟨oe, vs, T, oT, ts, (sb.2 e fun q => ?_).trans c1, c2, c3, c4, hb T c5, c6, (sb.2 T fun q => ?_).trans c7, c8, c9⟩
  · subst q
    rw [n1] at c1
    cases c1
    rw [n2] at c3
    cases c3
  · subst q
    rw [n1] at c7
    cases c7
    rw [n2] at c8
    cases c8
/-- THE WISH of a block's elements: what they raise leaves the block, and is wished for as before -/
theorem takes_blk {W : WX} {u3 : Shared} {J : Hp} {scope : Scope} {ce : PySem.Env} {fp : List Addr} (tk : Takes X W) (hs : X.stack = X.env :: X.outer) (hf : X.env.frame = some X.env.locals) (I3 : Inv X pins σ J u3) (hC : ce.locals = u3.heap.objs.size) (hcf : ce.frame = X.env.frame)
    (fo : ∀ b ∈ fp, FpOk X pins J b) : Takes (X.blkX u3 J scope ce fp (notedBy (model X.prog X.w) X.A ce (CompFails (model X.prog X.w) X.A X.xe ce))) (fun c d _ H' => W c d σ H') := by
  intro u s' x
  obtain ⟨a, B, sI, pins', σ', H', cls, d, rfl, I6, nb, up, sky, na, os, ag, w⟩ := x
  have hfr : X.A.frames = some (X.env :: X.outer) := by rw [I3.ok.frames, hs]
  have sky : Sky B (X.env :: X.outer) a (Zc cls d) ce.locals s'.heap := by rw [← hs]; exact sky
  obtain ⟨m, hn, _⟩ := I6.loc
  have hn : sI.heap.Ns ce.locals m := hn
  show wpAny _ X.A (noteFrame (.ref a) ce) _ _ s'
  rw [noteFrame_env (.ref a) hcf]
  refine sky.note Zc.steady hfr hf fun h1 held up1 => ?_
  have hn1 : h1.Ns ce.locals m := hn.upToSlots (up.trans up1)
  refine ⟨m, hn1, fun h2 m2 hn2 sb => ?_⟩
  -- the block's names are no part of what stands
  obtain ⟨G, gG⟩ : ∃ G, G = PySem.W.hideAll sI.heap [ce.locals] := ⟨_, rfl⟩
  obtain ⟨B', gB⟩ : ∃ B', B' = PySem.W.hideAll B [ce.locals] := ⟨_, rfl⟩
  have Gget : ∀ b o, sI.heap.get? b = some o → b ≠ ce.locals → G.get? b = some o := fun b o e q => by rw [gG]; exact PySem.W.hideAll_get _ e (by simpa using q)
  have Gof : ∀ b o, G.get? b = some o → sI.heap.get? b = some o ∧ b ≠ ce.locals := fun b o e => by
    rw [gG] at e
    refine ⟨PySem.W.of_hideAll _ e, fun q => ?_⟩
    rw [PySem.W.hideAll_none [ce.locals] (by simp [q])] at e
    cases e
  have Bof : ∀ b o, B'.get? b = some o → B.get? b = some o ∧ b ≠ ce.locals := fun b o e => by
    rw [gB] at e
    refine ⟨PySem.W.of_hideAll _ e, fun q => ?_⟩
    rw [PySem.W.hideAll_none [ce.locals] (by simp [q])] at e
    cases e
  have Bno : ∀ b, B.get? b = none → B'.get? b = none := fun b e => by
    cases q : B'.get? b with
    | none => rfl
    | some o => rw [(Bof b o q).1] at e; cases e
  have off : ∀ b o, u3.heap.get? b = some o → b ≠ ce.locals := fun b o e q => by
    have := Heap.lt_size e
    rw [q, hC] at this
    exact absurd this (Nat.lt_irrefl _)
  have fre : H' ce.locals = none := I6.free
  have Ib := I6.base
  have hok' : HOk X.prog X.w H' G := fun b o e => (I6.hok b o e).stay (fun c v hc q => Gget c v q fun z => by
    subst z
    rcases hc with z | z
    · rw [← z, fre] at e; cases e
    · rw [fre] at z; cases z) (fun _ q => q) fun _ _ q => q
  have IX : Inv X pins σ H' { sI with heap := G } := I3.call' (ch := fp) I6.os ⟨fun b o e n f x => Gget b o (Ib.keep b o e n f x) (off b o e), fun b o e n f x => by
      obtain ⟨sl, q⟩ := Ib.slot b o e n f x
      exact ⟨sl, Gget b _ q (off b o e)⟩, Ib.free, fun b o e x => by
      obtain ⟨o', q⟩ := Ib.there b o e x
      exact ⟨o', Gget b o' q (off b o e)⟩, Ib.tups, Ib.frzs, Ib.tbls⟩ hok' I6.bare fun b hb => ⟨(fo b hb).2.2.2.1, (fo b hb).2.1, (fo b hb).2.2.2.2.1, (fo b hb).2.2.2.2.2⟩
  have held2 : HandSPX.HeldZ B' (X.env :: X.outer) a (Zc cls d) X.env.locals h2 := by
    obtain ⟨b1, b2, b3, b4⟩ := held
    refine ⟨fun b o e => ?_, Bno a b2, funFrames_none (Heap.FunFrames.sameBut sb hn2 b3) fun L hL => Bno L (b3.mem hL).1, traced_but b4 hn1 sb Bno⟩
    obtain ⟨e1, e2⟩ := Bof b o e
    exact (sb.2 b e2).trans (b1 b o e1)
  obtain ⟨k1, k2, k3, oe, vs, T, oT, ts, c1, c2, c3, c4, c5, c6, c7, c8, c9⟩ := held2
  unfold PySem.passOn
  refine wpAny_bind (wpAny_field c1 c3 c4 ?_)
  rw [if_neg (by simp : ¬ ((Value.ref T == Value.none) = true)), hcf, hf]
  refine wpAny_bind (HandSPX.setFlight_onZ ⟨k1, k2, k3, oe, vs, T, oT, ts, c1, c2, c3, c4, c5, c6, c7, c8, c9⟩ fun h3 held3 up3 => wpAny_throw ?_)
  refine tk _ _ ⟨a, B', { sI with heap := G }, pins, σ, H', cls, d, rfl, IX, fun b o e q => ?_, fun b o e nf => ?_, .inr (.inr (by rw [hs]; exact held3)), na, os, ag, w⟩
  · obtain ⟨e1, e2⟩ := Gof b o e
    rw [gB]
    exact PySem.W.hideAll_get _ (nb b o e1 q) (by simpa using e2)
  · obtain ⟨e1, e2⟩ := Gof b o e
    obtain ⟨sl, q1⟩ := (up.trans up1) b o e1 nf
    obtain ⟨sl2, q2⟩ := up3 b _ ((sb.2 b e2).trans q1) nf
    exact ⟨sl2, q2⟩
/-- .. with elements and tests that raise what W wishes for -/
def tLcX (wi : TI) (g : TG) (tt : St → TT) (te : St → TE) (vs : List Nat) : TE := fun σ H Q => tLc wi g (tt σ) (te σ) vs σ H Q
theorem lc_coreX {Q : VK} {elt tg iter : Expr} {ifs : List Expr} {scope : Scope} {own : List (Str × Nat)} {pos pos' : Pos} {wi : TI} {g : TG} {tt : St → TT} {te : St → TE} {use : Option (Value → Sem Unit)} {Qf : Value → Shared → Prop} {W : WX}
    (tk : Takes X W) (hs : X.stack = X.env :: X.outer) (hf : X.env.frame = some X.env.locals) (calm : X.calm = true) (nd : X.N.Nodup) (I : Inv X pins σ H s) (pi : PI X tg iter wi) (ok : BlkOk X.N X.env.scope scope own)
    (pg : ∀ (u : Shared) (J : Hp) (C : Addr) (cl : List (Str × Addr)) (fp : List Addr) (E : Value → Shared → Prop), PG (X.blkX u J scope (compEnvC scope cl C X.env) fp E) tg g)
    (pt : ∀ (u : Shared) (J : Hp) (C : Addr) (cl : List (Str × Addr)) (fp : List Addr) (E : Value → Shared → Prop), Takes (X.blkX u J scope (compEnvC scope cl C X.env) fp E) (fun c d _ H' => W c d σ H') → PTs (X.blkX u J scope (compEnvC scope cl C X.env) fp E) ifs (tt σ))
    (pe : ∀ (u : Shared) (J : Hp) (C : Addr) (cl : List (Str × Addr)) (fp : List Addr) (E : Value → Shared → Prop), Takes (X.blkX u J scope (compEnvC scope cl C X.env) fp E) (fun c d _ H' => W c d σ H') → PE (X.blkX u J scope (compEnvC scope cl C X.env) fp E) elt (te σ))
    (fo : ∀ x, foldedSetIterable iter X.env x = pure x) (h : tLcX wi g tt te (own.map (·.2)) σ H Q)
    (fin : ∀ D ce u m J, Inv X pins σ J u → Q (.ref D) J → u.heap.Ns ce.locals m → FpOk X pins J ce.locals → compEnds (model X.prog X.w) X.A X.xe use Qf (.ref D) ce (.ok .next) u) :
    wpAny (model X.prog X.w) X.A (comprehension (.ListComp elt [⟨tg, iter, ifs, 0⟩] scope pos) scope X.env pos' (newList []) false (eval iter X.env) use) Qf X.xe s := by
  have fr : ∀ y ∈ scope.names, y.2 = .free → ∃ c, X.env.cells.lookup y.1 = some c := fun y hy e => (ok.free y hy e).elim (fun k => I.ok.has _ (.inl k)) fun k => I.ok.has _ (.inr k)
  refine comprehension_at (use := use) rfl fo (closure_ok fr) ok.kind (fun y hy e => by rw [ok.uniq y hy, e])
    (thn (pi.run pins s σ H _ I h) fun xv s1 hx => thn hx fun itv s2 hi => ?_)
  obtain ⟨it, fp, tn, J, H2, e, I2, T, sa, f2, q⟩ := hi
  subst e
  refine wpAny_newObj_type (newEnv_comp ?_) (Nat.zero_le _)
  obtain ⟨D, hD⟩ : ∃ D, s2.heap.objs.size = D := ⟨_, rfl⟩
  rw [hD]
  have Dn : H2 D = none := I2.hok.fresh (Nat.le_of_eq hD)
  obtain ⟨V, ⟨m0, v0⟩, turn⟩ := q D Dn
  obtain ⟨u3, hu3⟩ : ∃ u3, u3 = ({ s2 with heap := s2.heap.push { cls := .type "list", data := .seq ([] : List Value).toArray } } : Shared) := ⟨_, rfl⟩
  have I3 : Inv X pins σ (upd H2 D (.lst [])) u3 := by
    subst hu3
    refine I2.laid (t' := s2.toks) (fun b o z => Heap.get?_push_of_some _ z) (Nat.le_of_eq hD) ⟨Nat.zero_le _, [], 0, .nil, ?_⟩
    subst hD
    exact Heap.get?_push_size _ rfl
  have hp3 : u3.heap = s2.heap.push { cls := .type "list", data := .seq ([] : List Value).toArray } := by subst hu3; rfl
  have small : ∀ b ∈ fp, b < s2.heap.objs.size := fun b hb => (T.obj _ _ sa b hb).elim fun o z => Heap.lt_size z.1
  have f3 : ∀ b ∈ fp, FpOk X pins (upd H2 D (.lst [])) b ∧ b < u3.heap.objs.size := fun b hb => by
    have lt := small b hb
    refine ⟨⟨?_, (f2 b hb).2⟩, by rw [hp3, Heap.size_push]; exact Nat.lt_succ_of_lt lt⟩
    rw [upd_ne (by subst hD; exact Nat.ne_of_lt lt)]
    exact (f2 b hb).1
  have sb : tn 0 u3.heap := T.keep _ _ _ sa fun b _ o z => by rw [hp3]; exact Heap.get?_push_of_some _ z
  have I4 := block_start I3 ok nd f3
  show codeAny _ _ (.compStart (.ListComp elt [⟨tg, iter, ifs, 0⟩] scope pos) 0 (.ref it) (.ref D) (compEnvC scope (cellsFrom ((s2.heap.push { cls := .type "list", data := .seq ([] : List Value).toArray }).objs.size + 1) scope.names (cloFrom X.env.cells scope.names [])) (s2.heap.push { cls := .type "list", data := .seq ([] : List Value).toArray }).objs.size X.env)) (compEnds (model X.prog X.w) X.A X.xe use Qf (.ref D) (compEnvC scope (cellsFrom ((s2.heap.push { cls := .type "list", data := .seq ([] : List Value).toArray }).objs.size + 1) scope.names (cloFrom X.env.cells scope.names [])) (s2.heap.push { cls := .type "list", data := .seq ([] : List Value).toArray }).objs.size X.env)) { s2 with heap := pushCells ((s2.heap.push { cls := .type "list", data := .seq ([] : List Value).toArray }).push { cls := .type "dict", data := .dict #[] }) scope.names }
  rw [← hp3]
  have nfp : ∀ b ∈ fp, (upd H2 D (.lst [])) b = none := fun b hb => (f3 b hb).1.1
  obtain ⟨u4, hu4⟩ : ∃ u4, u4 = ({ s2 with heap := pushCells (u3.heap.push { cls := .type "dict", data := .dict #[] }) scope.names } : Shared) := ⟨_, rfl⟩
  have hu4' : ({ u3 with heap := pushCells (u3.heap.push { cls := .type "dict", data := .dict #[] }) scope.names } : Shared) = u4 := by rw [hu4]; subst hu3; rfl
  rw [hu4'] at I4
  rw [← hu4]
  obtain ⟨E, hE⟩ : ∃ E, E = notedBy (model X.prog X.w) X.A (compEnvC scope (cellsFrom (u3.heap.objs.size + 1) scope.names (cloFrom X.env.cells scope.names [])) u3.heap.objs.size X.env) (CompFails (model X.prog X.w) X.A X.xe (compEnvC scope (cellsFrom (u3.heap.objs.size + 1) scope.names (cloFrom X.env.cells scope.names [])) u3.heap.objs.size X.env)) := ⟨_, rfl⟩
  have I4 := I4.toX (E := E)
  have tkB : Takes (X.blkX u3 (upd H2 D (.lst [])) scope (compEnvC scope (cellsFrom (u3.heap.objs.size + 1) scope.names (cloFrom X.env.cells scope.names [])) u3.heap.objs.size X.env) fp E) (fun c d _ H' => W c d σ H') := by
    rw [hE]
    exact takes_blk tk hs hf I3 rfl rfl fun b hb => (f3 b hb).1
  have qg := pg u3 (upd H2 D (.lst [])) u3.heap.objs.size (cellsFrom (u3.heap.objs.size + 1) scope.names (cloFrom X.env.cells scope.names [])) fp E
  have qt := pt u3 (upd H2 D (.lst [])) u3.heap.objs.size (cellsFrom (u3.heap.objs.size + 1) scope.names (cloFrom X.env.cells scope.names [])) fp E tkB
  have qe := pe u3 (upd H2 D (.lst [])) u3.heap.objs.size (cellsFrom (u3.heap.objs.size + 1) scope.names (cloFrom X.env.cells scope.names [])) fp E tkB
  obtain ⟨ce, hce⟩ : ∃ ce, ce = compEnvC scope (cellsFrom (u3.heap.objs.size + 1) scope.names (cloFrom X.env.cells scope.names [])) u3.heap.objs.size X.env := ⟨_, rfl⟩
  have cL : ce.locals = u3.heap.objs.size := by subst hce; rfl
  rw [← hce] at I4 qg qt qe hE ⊢
  obtain ⟨J3, hJ3⟩ : ∃ J3, J3 = upd H2 D (.lst []) := ⟨_, rfl⟩
  rw [← hJ3] at I3 I4 qg qt qe v0 nfp f3
  have sc : tn 0 u4.heap := T.keep _ _ _ sb fun b _ o z => by rw [hu4]; exact pushCells_keeps _ _ _ _ (Heap.get?_push_of_some _ z)
  have stat : ∀ {σ' : St} {H' : Hp} {u : Shared}, Inv (X.blkX u3 J3 scope ce fp E) [] σ' H' u → (∀ b ∈ fp, H' b = none) → ∀ b ∈ fp, FpOk (X.blkX u3 J3 scope ce fp E) [] H' b := fun {σ' H' u} I' hn b hb =>
    ⟨hn b hb, (I'.ok.exf b hb).1, I'.ok.exfs b hb, .inl hb, fun x c z => (I'.ok.exf b hb).2 x c z, fun p hp => absurd (show p ∈ ([] : List (Addr × Obj)) ++ [] from hp) (by simp)⟩
  have eE : (notedBy (model X.prog X.w) X.A ce fun e s' => compEnds (model X.prog X.w) X.A X.xe use Qf (.ref D) ce (.error e) s') = E := by
    rw [hE]
    have : (fun e s' => compEnds (model X.prog X.w) X.A X.xe use Qf (.ref D) ce (.error e) s') = CompFails (model X.prog X.w) X.A X.xe ce := by
      funext e s'
      cases use <;> rfl
    rw [this]
  have loop : codeAny (model X.prog X.w) X.A (.compLoop (.ListComp elt [⟨tg, iter, ifs, 0⟩] scope pos) 0 (.ref it) (.ref D) ce) (compEnds (model X.prog X.w) X.A X.xe use Qf (.ref D) ce) u4 := by
    refine compLoop_any (fun n u => ∃ i H', Inv (X.blkX u3 J3 scope ce fp E) [] (wipe σ (own.map (·.2))) H' u ∧ tn i u.heap ∧ (∀ b ∈ fp, H' b = none) ∧ V i n H') ?_ m0 ⟨0, J3, I4, sc, nfp, v0⟩
    rw [eE]
    rintro n u5 ⟨i, H5, I5, s5, n5, w5⟩
    rcases turn i n H5 w5 with ⟨stop, qq⟩ | ⟨go, Nx, hNx, step⟩
    · refine thnF (T.done (X.blkX u3 J3 scope ce fp E) rfl rfl rfl calm i [] u5 _ H5 (fun _ _ => False) I5 (stat I5 n5) s5 stop) fun r u6 ⟨hr, I6⟩ => ?_
      subst hr
      have I7 : Inv X pins σ H5 u6 := I3.call' (ch := fp) I6.os I6.base I6.hok I6.bare fun b hb => ⟨(f3 b hb).1.2.2.2.1, (f3 b hb).1.2.1, (f3 b hb).1.2.2.2.2.1, (f3 b hb).1.2.2.2.2.2⟩
      have nC : H5 ce.locals = none := I6.free
      obtain ⟨m, hn, _⟩ := I6.loc
      exact fin D ce u6 m H5 I7 qq hn (by rw [cL] at nC ⊢; exact I3.fpOk (Nat.le_refl _) nC)
    · refine thnF (T.item (X.blkX u3 J3 scope ce fp E) rfl rfl rfl calm i [] u5 _ H5 (fun _ _ => False) I5 (stat I5 n5) s5 go) fun r u6 ⟨u, hr, h6⟩ => ?_
      subst hr
      refine thnF h6 fun _ u7 ⟨x, H7, I7, r7, y7, s7, n7⟩ => ?_
      refine thn (qg.run _ u7 _ H7 x u _ (I7.pinned (stat I7 n7) (T.obj _ _ s7)) r7 (step x H7 y7)) fun _ u8 ⟨σ8, H8, I8, hw8, q8⟩ => ?_
      refine thn (qt.run _ u8 σ8 H8 _ I8 q8) fun b u9 ⟨H9, I9, q9⟩ => ?_
      have close : ∀ {u : Shared} {H' : Hp}, Inv (X.blkX u3 J3 scope ce fp E) ([] ++ pinsAt fp u7.heap) σ8 H' u → Nx H' → ∃ m, m < n ∧ ∃ i H', Inv (X.blkX u3 J3 scope ce fp E) [] (wipe σ (own.map (·.2))) H' u ∧ tn i u.heap ∧ (∀ b ∈ fp, H' b = none) ∧ V i m H' := fun {u H'} I' nx => by
        obtain ⟨m', hm, w'⟩ := hNx H' nx
        have there : ∀ b ∈ fp, ∀ o, u7.heap.get? b = some o → u.heap.get? b = some o ∧ H' b = none := fun b hb o z =>
          let y := I'.pin (b, o) (List.mem_append_right _ (List.mem_append_right _ (mem_pinsAt hb z)))
          ⟨y.1, y.2.1⟩
        have ll : (wipe σ (own.map (·.2))).length = σ8.length := by rw [← hw8, wipe_length]
        refine ⟨m', hm, i + 1, H', (I'.unpinned (pins := [])).weak ll (fun j v z => ?_), T.keep _ _ _ s7 fun b hb o z => (there b hb o z).1, fun b hb => ?_, w'⟩
        · rw [← hw8] at z
          exact (wipe_some z).1
        · obtain ⟨o, z, _⟩ := T.obj _ _ s7 b hb
          exact (there b hb o z).2
      cases b with
      | false => exact close I9 q9
      | true =>
        have q9 : te σ σ8 H9 fun y H4 => ∃ acc, H4 D = some (.lst acc) ∧ acc.length < sizeLine ∧ Nx (upd H4 D (.lst (acc ++ [y]))) := q9
        show wpAny _ _ (eval elt ce) _ _ _
        refine thn (qe.run _ u9 σ8 H9 _ I9 q9) fun z u10 ⟨yv, H10, I10, r10, acc, hD10, hz10, nx⟩ => ?_
        exact app_ok (X := X.blkX u3 J3 scope ce fp E) I10 hD10 hz10 r10 fun u11 I11 => close I11 nx
  exact codeAny_compStart_list loop (T.self X.A 0 _ _ _ sc loop)
theorem pe_lcX {elt tg iter : Expr} {ifs : List Expr} {scope : Scope} {own : List (Str × Nat)} {pos : Pos} {wi : TI} {g : TG} {tt : St → TT} {te : St → TE} {W : WX}
    (tk : Takes X W) (hs : X.stack = X.env :: X.outer) (hf : X.env.frame = some X.env.locals) (calm : X.calm = true) (nd : X.N.Nodup) (pi : PI X tg iter wi) (ok : BlkOk X.N X.env.scope scope own)
    (pg : ∀ (u : Shared) (J : Hp) (C : Addr) (cl : List (Str × Addr)) (fp : List Addr) (E : Value → Shared → Prop), PG (X.blkX u J scope (compEnvC scope cl C X.env) fp E) tg g)
    (pt : ∀ (σ : St) (u : Shared) (J : Hp) (C : Addr) (cl : List (Str × Addr)) (fp : List Addr) (E : Value → Shared → Prop), Takes (X.blkX u J scope (compEnvC scope cl C X.env) fp E) (fun c d _ H' => W c d σ H') → PTs (X.blkX u J scope (compEnvC scope cl C X.env) fp E) ifs (tt σ))
    (pe : ∀ (σ : St) (u : Shared) (J : Hp) (C : Addr) (cl : List (Str × Addr)) (fp : List Addr) (E : Value → Shared → Prop), Takes (X.blkX u J scope (compEnvC scope cl C X.env) fp E) (fun c d _ H' => W c d σ H') → PE (X.blkX u J scope (compEnvC scope cl C X.env) fp E) elt (te σ))
    (fo : ∀ x, foldedSetIterable iter X.env x = pure x) : PE X (.ListComp elt [⟨tg, iter, ifs, 0⟩] scope pos) (tLcX wi g tt te (own.map (·.2))) := by
  refine ⟨fun pins s σ H Q I h => ?_⟩
  rw [eval_ListComp]
  refine lc_coreX tk hs hf calm nd I pi ok pg (pt σ) (pe σ) fo h fun D ce u m J I' q hn f => ⟨m, hn, fun h2 sb => ?_⟩
  obtain ⟨g0, g1, _, g3, g4, g5⟩ := f
  exact ⟨.ref D, J, I'.turned (t' := u.toks) (fun b o hb e => (sb.2 b hb).trans e) g0 g1 g3 g4 g5, rfl, q⟩
theorem ps_setLcX {i : Nat} {y : Str} {py : Pos} {elt tg iter : Expr} {ifs : List Expr} {scope : Scope} {own : List (Str × Nat)} {pos spos : Pos} {wi : TI} {g : TG} {tt : St → TT} {te : St → TE} {W : WX}
    (tk : Takes X W) (hs : X.stack = X.env :: X.outer) (hf : X.env.frame = some X.env.locals) (calm : X.calm = true) (nd : X.N.Nodup) (hy : X.N[i]? = some y) (hyl : X.env.scope.names.lookup y = some .local)
    (hsw : swapsWith (.ListComp elt [⟨tg, iter, ifs, 0⟩] scope pos) (some (.Name y py)) spos.line X.env = pure true) (pi : PI X tg iter wi) (ok : BlkOk X.N X.env.scope scope own)
    (pg : ∀ (u : Shared) (J : Hp) (C : Addr) (cl : List (Str × Addr)) (fp : List Addr) (E : Value → Shared → Prop), PG (X.blkX u J scope (compEnvC scope cl C X.env) fp E) tg g)
    (pt : ∀ (σ : St) (u : Shared) (J : Hp) (C : Addr) (cl : List (Str × Addr)) (fp : List Addr) (E : Value → Shared → Prop), Takes (X.blkX u J scope (compEnvC scope cl C X.env) fp E) (fun c d _ H' => W c d σ H') → PTs (X.blkX u J scope (compEnvC scope cl C X.env) fp E) ifs (tt σ))
    (pe : ∀ (σ : St) (u : Shared) (J : Hp) (C : Addr) (cl : List (Str × Addr)) (fp : List Addr) (E : Value → Shared → Prop), Takes (X.blkX u J scope (compEnvC scope cl C X.env) fp E) (fun c d _ H' => W c d σ H') → PE (X.blkX u J scope (compEnvC scope cl C X.env) fp E) elt (te σ))
    (fo : ∀ x, foldedSetIterable iter X.env x = pure x) : PS X (.Assign [.Name y py] (.ListComp elt [⟨tg, iter, ifs, 0⟩] scope pos) spos) (tAsg (tLcX wi g tt te (own.map (·.2))) (gName i)) := by
  refine ⟨fun pins s σ H D I h => ?_⟩
  rw [exec_Assign_Name_used _ _ _ _ hsw]
  refine wpAny_bind (wpAny_standAt (wpAny_bind ?_))
  show wpAny _ X.A (do let _ ← comprehension (.ListComp elt [⟨tg, iter, ifs, 0⟩] scope pos) scope X.env (firstIterPos [⟨tg, iter, ifs, 0⟩] pos) (newList []) false (eval iter X.env) (some (assign (.Name y py) X.env))) _ _ s
  have h : tLcX wi g tt te (own.map (·.2)) σ H (fun x J => gName i x σ J D.nx) := h
  refine wpAny_bind (thn (lc_coreX (Qf := fun _ u => SP X pins D .next u) tk hs hf calm nd I pi ok pg (pt σ) (pe σ) fo h fun L ce u m J I' q hn f => ?_) fun _ u hq => wpAny_pure (wpAny_pure hq))
  show wpAny _ _ (assign (.Name y py) X.env (.ref L)) _ _ _
  refine wpAny_assign_Name (store_ok2 (v := V.ref L) I' nd hy (.inl hyl) rfl (fun v I2 ⟨a, sb, ha⟩ => ?_) (.inr hyl))
  obtain ⟨g0, g1, _, g3, g4, g5⟩ := f
  have off : ce.locals ≠ a := by
    rcases ha with z | z
    · rw [z]; exact g1
    · exact fun e => g4 y a z e.symm
  exact ⟨m, hn.sameBut sb off, fun h3 sb3 => ⟨_, J, I2.turned (t' := v.toks) (fun b o hb e => (sb3.2 b hb).trans e) g0 g1 g3 g4 g5, q⟩⟩
end
end L2

/-! Comprehensions, raise, try. -/
namespace Dy
open PySem PySem.Spec PyProof.Rows L2
section
variable {X : Cx} {W : WJ}
def noX {α : Type} : Res α → Res α
  | .ok a h => .ok a h
  | .exc _ _ => .stuck
  | .stuck => .stuck
def wipeE (e : Env) : List Nat → Env
  | [] => e
  | v :: vs => (wipeE e vs).set v none
def compL (t : Tgt) (tst : TM) (elt : EM) (s : Src) (e0 : Env) : Nat → Nat → PH → Res (List D)
  | 0, _, _ => .stuck
  | f + 1, i, h => match s.item i h with
    | none => .stuck
    | some none => .ok [] h
    | some (some d) => (match tgt t d e0 h with
      | none => .stuck
      | some e1 => (tst e1 h).bind fun c h1 => match c with
        | true => (elt e1 h1).bind fun v h2 => (compL t tst elt s e0 f (i + 1) (h2.cut (max h.cs.length (max h2.lim v.mr)))).bind fun vs h3 => .ok (v :: vs) h3
        | false => compL t tst elt s e0 f (i + 1) (h1.cut (max h.cs.length h1.lim)))
def finL (ds : List D) (h : PH) : Res D := if ds.length ≤ 16777216 then newL ds h else .stuck
def compE (m : IM) (own : List Nat) (t : Tgt) (tst : TM) (elt : EM) : EM := fun e h => (m e h).bind fun s h1 => (noX (compL t tst elt s (wipeE e own) (s.fuel h1) 0 h1)).bind finL
def yesT : TM := fun _ h => .ok true h

theorem EnvIs.wipe {K : KX} {ρ : List Addr} {H : Hp} {env : Env} {σ : L2.St} (hj : ∀ σ, K.J σ) (h : EnvIs K ρ H env σ) : ∀ vs : List Nat, EnvIs K ρ H (wipeE env vs) (L2.wipe σ vs)
  | [] => h
  | v :: vs => by
    have ih := EnvIs.wipe hj h vs
    refine ⟨by show ((wipeE env vs).set v none).length = ((L2.wipe σ vs).set v none).length; rw [List.length_set, List.length_set]; exact ih.len, fun i d e => ?_, hj _⟩
    have e : ((wipeE env vs).set v none)[i]? = some (some d) := e
    by_cases hv : v = i
    · subst hv
      by_cases hl : v < (wipeE env vs).length
      · rw [List.getElem?_set_self hl] at e; cases e
      · rw [List.getElem?_eq_none (by rw [List.length_set]; omega)] at e; cases e
    · rw [List.getElem?_set_ne hv] at e
      obtain ⟨x, e1, e2⟩ := ih.at_ i d e
      refine ⟨x, ?_, e2⟩
      show ((L2.wipe σ vs).set v none)[i]? = _
      rw [List.getElem?_set_ne hv]; exact e1
theorem EnvWf.wipe {env : Env} {n : Nat} (w : EnvWf env n) : ∀ vs : List Nat, EnvWf (wipeE env vs) n
  | [] => w
  | v :: vs => fun i d e => by
    have e : ((wipeE env vs).set v none)[i]? = some (some d) := e
    by_cases hv : v = i
    · subst hv
      by_cases hl : v < (wipeE env vs).length
      · rw [List.getElem?_set_self hl] at e; cases e
      · rw [List.getElem?_eq_none (by rw [List.length_set]; omega)] at e; cases e
    · rw [List.getElem?_set_ne hv] at e
      exact EnvWf.wipe w vs i d e
/-- a tracked list beside the cells is changed -/
theorem Ext.side {K : KX} {ρ ρ1 : List Addr} {H H1 : Hp} {h1 : PH} {p : Addr} {xs ys : List V} (x : Ext K ρ H h1 ρ1 H1) (np : H p = none) (nr : p ∉ ρ1) (hp : H1 p = some (.lst xs)) : Ext K ρ H h1 ρ1 (upd H1 p (.lst ys)) := by
  have k : TupsKeep H1 (upd H1 p (.lst ys)) := keep_old hp (fun _ z => by cases z) (fun _ _ z => by cases z)
  refine ⟨x.pre, x.fresh, fun a o na e => ?_, x.kept.trans k, ⟨x.rel.len, x.rel.nd, fun n c a e1 e2 => ?_⟩, x.wf⟩
  · have ha : a ≠ p := ne_of_none e np
    rw [upd_ne ha]; exact x.frame a o na e
  · have hm : a ∈ ρ1 := List.mem_of_getElem? e2
    have ha : a ≠ p := fun z => nr (z ▸ hm)
    exact CellIs.mono (ρ := ρ1) (H := H1) k (max n h1.lim) (fun i _ x hx => hx) (x.wf.at_ n c e1) (upd_ne ha) (x.rel.at_ n c a e1 e2)
/-- it becomes a cell -/
theorem Ext.adopt {K : KX} {ρ ρ1 : List Addr} {H H1 : Hp} {h1 : PH} {p : Addr} {xs : List V} {ds : List D} (x : Ext K ρ H h1 ρ1 H1) (np : H p = none) (nr : p ∉ ρ1) (hp : H1 p = some (.lst xs)) (i : IsL K ρ1 H1 ds xs) (l : mrL ds ≤ h1.cs.length) :
    Ext K ρ H (h1.push (.lst ds)) (ρ1 ++ [p]) H1 ∧ RD K (ρ1 ++ [p]) H1 (h1.push (.lst ds)).cs.length (.ref h1.cs.length) (.ref p) := by
  obtain ⟨m, e⟩ := x.pre
  have hlen := x.rel.len
  refine ⟨⟨⟨m ++ [p], by rw [e, List.append_assoc]⟩, fun a h2 h3 => ?_, x.frame, x.kept, ⟨?_, ?_, fun n c a e1 e2 => ?_⟩, x.wf.push l⟩, ?_, ?_⟩
  · rcases List.mem_append.mp h2 with z | z
    · exact x.fresh a z h3
    · have : a = p := by simpa using z
      rw [this]; exact np
  · show (ρ1 ++ [p]).length = (h1.cs ++ [Cell.lst ds]).length
    rw [List.length_append, List.length_append, hlen]; rfl
  · refine List.nodup_append.mpr ⟨x.rel.nd, by simp, fun a ha b hb z => ?_⟩
    have : b = p := by simpa using hb
    subst this
    exact nr (z ▸ ha)
  · have e1 : (h1.cs ++ [Cell.lst ds])[n]? = some c := e1
    by_cases hn : n < h1.cs.length
    · rw [List.getElem?_append_left hn] at e1
      rw [List.getElem?_append_left (by rw [hlen]; exact hn)] at e2
      refine CellIs.mono (ρ := ρ1) (H := H1) (TupsKeep.refl _) (max n h1.lim) (fun i _ x hx => ?_) (x.wf.at_ n c e1) rfl (x.rel.at_ n c a e1 e2)
      rw [List.getElem?_append_left (List.getElem?_eq_some_iff.mp hx).1]; exact hx
    · rw [List.getElem?_append_right (by omega)] at e1
      have hz : n = h1.cs.length := by
        rcases Nat.eq_zero_or_pos (n - h1.cs.length) with z | z
        · omega
        · rw [List.getElem?_eq_none (by simp; omega)] at e1; cases e1
      subst hz
      rw [← hlen, List.getElem?_append_right (Nat.le_refl _), Nat.sub_self] at e2
      rw [Nat.sub_self] at e1
      have ea : p = a := by simpa using e2
      have ec : Cell.lst ds = c := by simpa using e1
      subst ea; subst ec
      exact ⟨xs, hp, IsL.mono (TupsKeep.refl _) ρ1.length (fun i hi a ha => by rw [List.getElem?_append_left hi]; exact ha) ds xs (by rw [hlen]; exact l) i⟩
  · unfold Is
    exact ⟨p, by rw [← hlen, List.getElem?_append_right (Nat.le_refl _), Nat.sub_self]; rfl, rfl⟩
  · unfold D.mr
    show _ ≤ (h1.cs ++ [Cell.lst ds]).length
    rw [List.length_append]; exact Nat.le_refl _
theorem IsL.cutR {K : KX} {ρ : List Addr} {H : Hp} {n : Nat} {d : List D} {v : List V} (l : mrL d ≤ n) (x : IsL K ρ H d v) : IsL K (ρ.take n) H d v :=
  IsL.mono (TupsKeep.refl _) n (fun i hi a ha => by rw [List.getElem?_take_of_lt hi]; exact ha) d v l x

/-- the whole of a comprehension's reading -/
abbrev W0 : WJ := ⟨fun _ _ _ _ => False, none⟩
theorem t_comp {K : KX} (hj : ∀ σ, K.J σ) {m : IM} {own : List Nat} {t : Tgt} {tst : TM} {elt : EM} {g : TG} (ok : TgOk K t g) (ho : ∀ i ∈ t.slots, i ∈ own) {σ : L2.St} {H : Hp} {Q : VK} (q : tE K W (compE m own t tst elt) σ H Q) :
    tLc (tG K W (RS K) m) g (tT K W0 tst) (tE K W0 elt) own σ H Q := by
  obtain ⟨ρ, env, h, rl, p⟩ := q
  refine tG_mono (PostG.bind (R := RS K) rl p) fun J H1 ⟨ρ1, h1, s, x1, rs, p1⟩ p0 np => ?_
  have rl1 := rl.ext x1
  have np1 : p0 ∉ ρ1 := rl1.heap.fresh (h := h1) np
  refine ⟨fun i n H' => ∃ ρi hi acc accV, Ext K ρ1 H1 hi ρi H' ∧ p0 ∉ ρi ∧ H' p0 = some (.lst accV) ∧ IsL K ρi H' acc accV ∧ mrL acc ≤ hi.cs.length ∧ PostG K W (RD K) σ Q ρ1 H1 ((noX (compL t tst elt s (wipeE env own) n i hi)).bind fun vs h' => finL (acc ++ vs) h'),
    ⟨_, ρ1, h1, [], [], Ext.obj rl1.heap rl1.wf np, np1, upd_same, by unfold IsL; rfl, Nat.zero_le _, p1⟩, ?_⟩
  rintro i n H' ⟨ρi, hi, acc, accV, xi, npi, hp, ia, la, pi⟩
  cases n with
  | zero => exact pi.elim
  | succ n =>
    have q := rs i ρi hi H' xi
    unfold compL at pi
    split at pi
    · exact pi.elim
    · rename_i e0
      rw [e0] at q
      refine .inl ⟨q, ?_⟩
      have pi : PostG K W (RD K) σ Q ρ1 H1 (finL (acc ++ []) hi) := pi
      rw [List.append_nil] at pi
      unfold finL at pi
      split at pi
      · obtain ⟨y1, y2⟩ := xi.adopt np npi hp ia la
        exact pi _ _ H' y1 y2
      · exact pi.elim
    · rename_i d e0
      rw [e0] at q
      obtain ⟨go, yld⟩ := q
      refine .inr ⟨go, fun H2 => ∃ m', m' < n + 1 ∧ ∃ ρi hi acc accV, Ext K ρ1 H1 hi ρi H2 ∧ p0 ∉ ρi ∧ H2 p0 = some (.lst accV) ∧ IsL K ρi H2 acc accV ∧ mrL acc ≤ hi.cs.length ∧ PostG K W (RD K) σ Q ρ1 H1 ((noX (compL t tst elt s (wipeE env own) m' (i + 1) hi)).bind fun vs h' => finL (acc ++ vs) h'), fun H2 w => w, fun x H'' y => ?_⟩
      obtain ⟨e1, rd⟩ := yld x H'' y
      subst e1
      split at pi
      · exact pi.elim
      · rename_i en1 e2
        have rli := rl1.ext xi
        have rlw : Rel K ρi (wipeE env own) hi (wipe σ own) H'' := ⟨EnvIs.wipe hj rli.eis own, rli.heap, rli.wf, rli.ewf.wipe own⟩
        refine ok ρi _ en1 hi (wipe σ own) H'' d x _ rlw rd e2 fun σ3 r3 w3 => ?_
        have ww : wipe σ3 own = wipe σ own := by
          rw [w3 own ho]
          apply List.ext_getElem?
          intro j
          rw [wipe_get, wipe_get, wipe_length]
          split <;> rfl
        refine ⟨ww, ρi, en1, hi, r3, ?_⟩
        cases et : tst en1 hi with
        | stuck => rw [et] at pi; exact pi.elim
        | exc c h2 => rw [et] at pi; exact pi.elim
        | ok b h2 =>
          rw [et] at pi
          intro ρ4 b4 H4 x4 rb
          have eb : b = b4 := rb
          subst eb
          have np4 : p0 ∉ ρ4 := fun z => by have := x4.fresh p0 z npi; rw [hp] at this; cases this
          have hp4 := x4.frame p0 _ npi hp
          have ia4 := x4.isL (by rw [xi.rel.len]; exact la) ia
          cases b with
          | false =>
            refine iteF ?_
            have l4 := x4.le
            rw [xi.rel.len] at l4
            have l5 := xi.le
            have x5 := (xi.trans x4).cut (n := max hi.cs.length h2.lim) (by omega) (by omega)
            have wf := x4.wf.le
            refine ⟨n, Nat.lt_succ_self n, ρ4.take (max hi.cs.length h2.lim), h2.cut (max hi.cs.length h2.lim), acc, accV, x5, fun z => np4 (List.mem_of_mem_take z), hp4, IsL.cutR (by omega) ia4, ?_, pi⟩
            show mrL acc ≤ (h2.cs.take _).length
            rw [List.length_take]; omega
          | true =>
            refine iteT ?_
            have rl4 := r3.ext x4
            refine ⟨ρ4, en1, h2, rl4, ?_⟩
            dsimp only [Res.bind] at pi
            cases ee : elt en1 h2 with
            | stuck => rw [ee] at pi; exact pi.elim
            | exc c h3 => rw [ee] at pi; exact pi.elim
            | ok v h3 =>
              rw [ee] at pi
              intro ρ5 y5 H5 x5 r5
              have np5 : p0 ∉ ρ5 := fun z => by have := x5.fresh p0 z np4; rw [hp4] at this; cases this
              have hp5 := x5.frame p0 _ np4 hp4
              have l4 := x4.le
              rw [xi.rel.len] at l4
              have l5 := x5.le
              rw [rl4.len] at l5
              have ia5 := x5.isL (by rw [rl4.len]; omega) ia4
              have wf5 := x5.wf.le
              have lx := xi.le
              have r52 := r5.2
              have xc := ((xi.trans x4).trans x5).cut (n := max hi.cs.length (max h3.lim v.mr)) (by omega) (by omega)
              have pi : PostG K W (RD K) σ Q ρ1 H1 ((noX ((compL t tst elt s (wipeE env own) n (i + 1) (h3.cut (max hi.cs.length (max h3.lim v.mr)))).bind fun vs h3 => .ok (v :: vs) h3)).bind fun vs h' => finL (acc ++ vs) h') := pi
              have hz : acc.length < 16777216 ∧ PostG K W (RD K) σ Q ρ1 H1 ((noX (compL t tst elt s (wipeE env own) n (i + 1) (h3.cut (max hi.cs.length (max h3.lim v.mr))))).bind fun vs h' => finL ((acc ++ [v]) ++ vs) h') := by
                cases ec : compL t tst elt s (wipeE env own) n (i + 1) (h3.cut (max hi.cs.length (max h3.lim v.mr))) with
                | stuck => rw [ec] at pi; exact pi.elim
                | exc c h6 => rw [ec] at pi; exact pi.elim
                | ok vs h6 =>
                  rw [ec] at pi
                  have pi : PostG K W (RD K) σ Q ρ1 H1 (finL (acc ++ v :: vs) h6) := pi
                  refine ⟨?_, ?_⟩
                  · unfold finL at pi
                    split at pi
                    · rename_i hl
                      rw [List.length_append, List.length_cons] at hl
                      omega
                    · exact pi.elim
                  · show PostG K W (RD K) σ Q ρ1 H1 (finL ((acc ++ [v]) ++ vs) h6)
                    rw [List.append_assoc]; exact pi
              refine ⟨accV, hp5, by rw [sizeLine_eq, ia5.length]; exact hz.1, n, Nat.lt_succ_self n, ρ5.take (max hi.cs.length (max h3.lim v.mr)), h3.cut (max hi.cs.length (max h3.lim v.mr)), acc ++ [v], accV ++ [y5],
                Ext.side xc np (fun z => np5 (List.mem_of_mem_take z)) hp5, fun z => np5 (List.mem_of_mem_take z), upd_same, ?_, ?_, hz.2⟩
              · have k : TupsKeep H5 (upd H5 p0 (.lst (accV ++ [y5]))) := keep_old hp5 (fun _ z => by cases z) (fun _ _ z => by cases z)
                refine IsL.mono k (max hi.cs.length (max h3.lim v.mr)) (fun j _ a ha => ha) _ _ ?_ ?_
                · rw [mrL_append]
                  show max (mrL acc) (max v.mr 0) ≤ _
                  omega
                · refine (IsL.cutR (by omega) ia5).append ?_
                  unfold IsL
                  exact ⟨y5, [], rfl, Is.cut (by omega) r5.1, by unfold IsL; rfl⟩
              · show mrL (acc ++ [v]) ≤ (h3.cs.take _).length
                rw [mrL_append, List.length_take]
                show max (mrL acc) (max v.mr 0) ≤ _
                omega
/-- .. of elements that raise -/
def WB (W : WJ) (σ : L2.St) : WJ := ⟨fun c d _ H' => W.w c d σ H', none⟩
def fXA (N : Nat) (acc : List D) (r : Res (List D)) : Res D := match r with
  | .ok vs h => finL (acc ++ vs) h
  | .exc c h => if N ≤ 16777216 then .exc c h else .stuck
  | .stuck => .stuck
def compXE (m : IM) (own : List Nat) (t : Tgt) (tst : TM) (elt : EM) : EM := fun e h => (m e h).bind fun s h1 => fXA (s.fuel h1) [] (compL t tst elt s (wipeE e own) (s.fuel h1) 0 h1)
theorem t_compX {K : KX} (hj : ∀ σ, K.J σ) {m : IM} {own : List Nat} {t : Tgt} {tst : TM} {elt : EM} {g : TG} (ok : TgOk K t g) (ho : ∀ i ∈ t.slots, i ∈ own) {σ : L2.St} {H : Hp} {Q : VK} (q : tE K W (compXE m own t tst elt) σ H Q) :
    tLcX (tG K W (RS K) m) g (fun σ => tT K (WB W σ) tst) (fun σ => tE K (WB W σ) elt) own σ H Q := by
  obtain ⟨ρ, env, h, rl, p⟩ := q
  refine tG_mono (PostG.bind (R := RS K) rl p) fun J H1 ⟨ρ1, h1, s, x1, rs, p1⟩ p0 np => ?_
  have rl1 := rl.ext x1
  have np1 : p0 ∉ ρ1 := rl1.heap.fresh (h := h1) np
  refine ⟨fun i n H' => ∃ ρi hi acc accV, Ext K ρ1 H1 hi ρi H' ∧ p0 ∉ ρi ∧ H' p0 = some (.lst accV) ∧ IsL K ρi H' acc accV ∧ mrL acc ≤ hi.cs.length ∧ acc.length ≤ i ∧ i + n = s.fuel h1 ∧ PostG K W (RD K) σ Q ρ1 H1 (fXA (s.fuel h1) acc (compL t tst elt s (wipeE env own) n i hi)),
    ⟨_, ρ1, h1, [], [], Ext.obj rl1.heap rl1.wf np, np1, upd_same, by unfold IsL; rfl, Nat.zero_le _, Nat.zero_le _, Nat.zero_add _, p1⟩, ?_⟩
  rintro i n H' ⟨ρi, hi, acc, accV, xi, npi, hp, ia, la, la1, la2, pi⟩
  cases n with
  | zero => exact pi.elim
  | succ n =>
    have q := rs i ρi hi H' xi
    unfold compL at pi
    split at pi
    · exact pi.elim
    · rename_i e0
      rw [e0] at q
      refine .inl ⟨q, ?_⟩
      have pi : PostG K W (RD K) σ Q ρ1 H1 (finL (acc ++ []) hi) := pi
      rw [List.append_nil] at pi
      unfold finL at pi
      split at pi
      · obtain ⟨y1, y2⟩ := xi.adopt np npi hp ia la
        exact pi _ _ H' y1 y2
      · exact pi.elim
    · rename_i d e0
      rw [e0] at q
      obtain ⟨go, yld⟩ := q
      refine .inr ⟨go, fun H2 => ∃ m', m' < n + 1 ∧ ∃ ρi hi acc accV, Ext K ρ1 H1 hi ρi H2 ∧ p0 ∉ ρi ∧ H2 p0 = some (.lst accV) ∧ IsL K ρi H2 acc accV ∧ mrL acc ≤ hi.cs.length ∧ acc.length ≤ i + 1 ∧ i + 1 + m' = s.fuel h1 ∧ PostG K W (RD K) σ Q ρ1 H1 (fXA (s.fuel h1) acc (compL t tst elt s (wipeE env own) m' (i + 1) hi)), fun H2 w => w, fun x H'' y => ?_⟩
      obtain ⟨e1, rd⟩ := yld x H'' y
      subst e1
      split at pi
      · exact pi.elim
      · rename_i en1 e2
        have rli := rl1.ext xi
        have rlw : Rel K ρi (wipeE env own) hi (wipe σ own) H'' := ⟨EnvIs.wipe hj rli.eis own, rli.heap, rli.wf, rli.ewf.wipe own⟩
        refine ok ρi _ en1 hi (wipe σ own) H'' d x _ rlw rd e2 fun σ3 r3 w3 => ?_
        have ww : wipe σ3 own = wipe σ own := by
          rw [w3 own ho]
          apply List.ext_getElem?
          intro j
          rw [wipe_get, wipe_get, wipe_length]
          split <;> rfl
        refine ⟨ww, ρi, en1, hi, r3, ?_⟩
        cases et : tst en1 hi with
        | stuck => rw [et] at pi; exact pi.elim
        | exc c h2 =>
          rw [et] at pi
          have pi : PostG K W (RD K) σ Q ρ1 H1 (if s.fuel h1 ≤ 16777216 then .exc c h2 else .stuck) := pi
          split at pi
          · exact fun ρ' H' x' => pi ρ' H' (xi.trans x')
          · exact pi.elim
        | ok b h2 =>
          rw [et] at pi
          intro ρ4 b4 H4 x4 rb
          have eb : b = b4 := rb
          subst eb
          have np4 : p0 ∉ ρ4 := fun z => by have := x4.fresh p0 z npi; rw [hp] at this; cases this
          have hp4 := x4.frame p0 _ npi hp
          have ia4 := x4.isL (by rw [xi.rel.len]; exact la) ia
          cases b with
          | false =>
            refine iteF ?_
            have l4 := x4.le
            rw [xi.rel.len] at l4
            have l5 := xi.le
            have x5 := (xi.trans x4).cut (n := max hi.cs.length h2.lim) (by omega) (by omega)
            have wf := x4.wf.le
            refine ⟨n, Nat.lt_succ_self n, ρ4.take (max hi.cs.length h2.lim), h2.cut (max hi.cs.length h2.lim), acc, accV, x5, fun z => np4 (List.mem_of_mem_take z), hp4, IsL.cutR (by omega) ia4, ?_, by omega, by omega, pi⟩
            show mrL acc ≤ (h2.cs.take _).length
            rw [List.length_take]; omega
          | true =>
            refine iteT ?_
            have rl4 := r3.ext x4
            refine ⟨ρ4, en1, h2, rl4, ?_⟩
            dsimp only [Res.bind] at pi
            cases ee : elt en1 h2 with
            | stuck => rw [ee] at pi; exact pi.elim
            | exc c h3 =>
              rw [ee] at pi
              have pi : PostG K W (RD K) σ Q ρ1 H1 (if s.fuel h1 ≤ 16777216 then .exc c h3 else .stuck) := pi
              split at pi
              · exact fun ρ' H' x' => pi ρ' H' ((xi.trans x4).trans x')
              · exact pi.elim
            | ok v h3 =>
              rw [ee] at pi
              intro ρ5 y5 H5 x5 r5
              have np5 : p0 ∉ ρ5 := fun z => by have := x5.fresh p0 z np4; rw [hp4] at this; cases this
              have hp5 := x5.frame p0 _ np4 hp4
              have l4 := x4.le
              rw [xi.rel.len] at l4
              have l5 := x5.le
              rw [rl4.len] at l5
              have ia5 := x5.isL (by rw [rl4.len]; omega) ia4
              have wf5 := x5.wf.le
              have lx := xi.le
              have r52 := r5.2
              have xc := ((xi.trans x4).trans x5).cut (n := max hi.cs.length (max h3.lim v.mr)) (by omega) (by omega)
              have pi : PostG K W (RD K) σ Q ρ1 H1 (fXA (s.fuel h1) acc ((compL t tst elt s (wipeE env own) n (i + 1) (h3.cut (max hi.cs.length (max h3.lim v.mr)))).bind fun vs h3 => .ok (v :: vs) h3)) := pi
              have hz : acc.length < 16777216 ∧ PostG K W (RD K) σ Q ρ1 H1 (fXA (s.fuel h1) (acc ++ [v]) (compL t tst elt s (wipeE env own) n (i + 1) (h3.cut (max hi.cs.length (max h3.lim v.mr))))) := by
                cases ec : compL t tst elt s (wipeE env own) n (i + 1) (h3.cut (max hi.cs.length (max h3.lim v.mr))) with
                | stuck => rw [ec] at pi; exact pi.elim
                | exc c h6 =>
                  rw [ec] at pi
                  have pi : PostG K W (RD K) σ Q ρ1 H1 (if s.fuel h1 ≤ 16777216 then .exc c h6 else .stuck) := pi
                  split at pi
                  · rename_i hN
                    refine ⟨by omega, ?_⟩
                    show PostG K W (RD K) σ Q ρ1 H1 (if s.fuel h1 ≤ 16777216 then .exc c h6 else .stuck)
                    rw [if_pos hN]
                    exact pi
                  · exact pi.elim
                | ok vs h6 =>
                  rw [ec] at pi
                  have pi : PostG K W (RD K) σ Q ρ1 H1 (finL (acc ++ v :: vs) h6) := pi
                  refine ⟨?_, ?_⟩
                  · unfold finL at pi
                    split at pi
                    · rename_i hl
                      rw [List.length_append, List.length_cons] at hl
                      omega
                    · exact pi.elim
                  · show PostG K W (RD K) σ Q ρ1 H1 (finL ((acc ++ [v]) ++ vs) h6)
                    rw [List.append_assoc]; exact pi
              refine ⟨accV, hp5, by rw [sizeLine_eq, ia5.length]; exact hz.1, n, Nat.lt_succ_self n, ρ5.take (max hi.cs.length (max h3.lim v.mr)), h3.cut (max hi.cs.length (max h3.lim v.mr)), acc ++ [v], accV ++ [y5],
                Ext.side xc np (fun z => np5 (List.mem_of_mem_take z)) hp5, fun z => np5 (List.mem_of_mem_take z), upd_same, ?_, ?_, by rw [List.length_append]; show acc.length + 1 ≤ i + 1; omega, by omega, hz.2⟩
              · have k : TupsKeep H5 (upd H5 p0 (.lst (accV ++ [y5]))) := keep_old hp5 (fun _ z => by cases z) (fun _ _ z => by cases z)
                refine IsL.mono k (max hi.cs.length (max h3.lim v.mr)) (fun j _ a ha => ha) _ _ ?_ ?_
                · rw [mrL_append]
                  show max (mrL acc) (max v.mr 0) ≤ _
                  omega
                · refine (IsL.cutR (by omega) ia5).append ?_
                  unfold IsL
                  exact ⟨y5, [], rfl, Is.cut (by omega) r5.1, by unfold IsL; rfl⟩
              · show mrL (acc ++ [v]) ≤ (h3.cs.take _).length
                rw [mrL_append, List.length_take]
                show max (mrL acc) (max v.mr 0) ≤ _
                omega
/-- a comprehension's tests -/
abbrev DTs (X : Cx) (W : WJ) (es : List Expr) (m : TM) : Prop := PTs X es (tT (kx X W) W m)
theorem dts_nil : DTs X W [] yesT := ⟨fun pins s σ H Q I ⟨ρ, env, h, rl, p⟩ => pts_nil.run pins s σ H Q I (p ρ true H rl.refl rfl)⟩
theorem dts_one {c : Expr} {t : TM} (h : DT X W c t) : DTs X W [c] t := pts_one h
abbrev BlkCx (X : Cx) (scope : Scope) (s : Shared) (H : Hp) (C : Addr) (cl : List (Str × Addr)) (fp : List Addr) : Cx := X.blk s H scope (compEnvC scope cl C X.env) fp
theorem de_comp {w : WX} {elt tg iter : Expr} {ifs : List Expr} {scope : Scope} {own : List (Str × Nat)} {pos : Pos} {m : IM} {t : Tgt} {g : TG} {tst : TM} {el : EM} (hc : X.calm = true) (hN : X.N.Nodup) (hi : DI X ⟨w, none⟩ tg iter m) (ok : BlkOk X.N X.env.scope scope own)
    (tk : TgOk ⟨X.K, none⟩ t g) (ho : ∀ i ∈ t.slots, i ∈ own.map (·.2))
    (hg : ∀ s H C cl fp, PG (BlkCx X scope s H C cl fp) tg g) (ht : ∀ s H C cl fp, DTs (BlkCx X scope s H C cl fp) W0 ifs tst) (he : ∀ s H C cl fp, DE (BlkCx X scope s H C cl fp) W0 elt el) (hs : ∀ x, foldedSetIterable iter X.env x = pure x) :
    DE X ⟨w, none⟩ (.ListComp elt [⟨tg, iter, ifs, 0⟩] scope pos) (compE m (own.map (·.2)) t tst el) :=
  pe_imp (pe_lc hc hN hi ok hg ht he hs) fun σ H Q q => t_comp (K := ⟨X.K, none⟩) (fun _ => trivial) tk ho q
theorem ds_setc {w : WX} {i : Nat} {y : Str} {py : Pos} {elt tg iter : Expr} {ifs : List Expr} {scope : Scope} {own : List (Str × Nat)} {pos spos : Pos} {m : IM} {t : Tgt} {g : TG} {tst : TM} {el : EM} (hc : X.calm = true) (hN : X.N.Nodup) (hy : X.N[i]? = some y) (hyl : X.env.scope.names.lookup y = some .local)
    (hsw : swapsWith (.ListComp elt [⟨tg, iter, ifs, 0⟩] scope pos) (some (.Name y py)) spos.line X.env = pure true) (hi : DI X ⟨w, none⟩ tg iter m) (ok : BlkOk X.N X.env.scope scope own)
    (tk : TgOk ⟨X.K, none⟩ t g) (ho : ∀ i ∈ t.slots, i ∈ own.map (·.2))
    (hg : ∀ s H C cl fp, PG (BlkCx X scope s H C cl fp) tg g) (ht : ∀ s H C cl fp, DTs (BlkCx X scope s H C cl fp) W0 ifs tst) (he : ∀ s H C cl fp, DE (BlkCx X scope s H C cl fp) W0 elt el) (hs : ∀ x, foldedSetIterable iter X.env x = pure x) :
    DS X ⟨w, none⟩ (.Assign [.Name y py] (.ListComp elt [⟨tg, iter, ifs, 0⟩] scope pos) spos) (asgS (compE m (own.map (·.2)) t tst el) (.one i)) :=
  ps_imp (ps_setLc hc hN hy hyl hsw hi ok hg ht he hs) fun D σ H q => by
    have q2 : tAsg (tE ⟨X.K, none⟩ ⟨w, none⟩ (compE m (own.map (·.2)) t tst el)) (gName i) D σ H := t_asg (tg_one (K := ⟨X.K, none⟩) i trivial) q
    exact t_comp (K := ⟨X.K, none⟩) (fun _ => trivial) tk ho q2

abbrev BlkCxX (X : Cx) (scope : Scope) (s : Shared) (H : Hp) (C : Addr) (cl : List (Str × Addr)) (fp : List Addr) (E : Value → Shared → Prop) : Cx := X.blkX s H scope (compEnvC scope cl C X.env) fp E
theorem de_compX {w : WX} {elt tg iter : Expr} {ifs : List Expr} {scope : Scope} {own : List (Str × Nat)} {pos : Pos} {m : IM} {t : Tgt} {g : TG} {tst : TM} {el : EM} (tw : Takes X w) (hs1 : X.stack = X.env :: X.outer) (hs2 : X.env.frame = some X.env.locals) (hc : X.calm = true) (hN : X.N.Nodup) (hi : DI X ⟨w, none⟩ tg iter m) (ok : BlkOk X.N X.env.scope scope own)
    (tk : TgOk ⟨X.K, none⟩ t g) (ho : ∀ i ∈ t.slots, i ∈ own.map (·.2))
    (hg : ∀ s H C cl fp E, PG (BlkCxX X scope s H C cl fp E) tg g) (ht : ∀ σ s H C cl fp E, Takes (BlkCxX X scope s H C cl fp E) (WB ⟨w, none⟩ σ).w → DTs (BlkCxX X scope s H C cl fp E) (WB ⟨w, none⟩ σ) ifs tst)
    (he : ∀ σ s H C cl fp E, Takes (BlkCxX X scope s H C cl fp E) (WB ⟨w, none⟩ σ).w → DE (BlkCxX X scope s H C cl fp E) (WB ⟨w, none⟩ σ) elt el) (hs : ∀ x, foldedSetIterable iter X.env x = pure x) :
    DE X ⟨w, none⟩ (.ListComp elt [⟨tg, iter, ifs, 0⟩] scope pos) (compXE m (own.map (·.2)) t tst el) :=
  pe_imp (pe_lcX (tt := fun σ => tT ⟨X.K, none⟩ (WB ⟨w, none⟩ σ) tst) (te := fun σ => tE ⟨X.K, none⟩ (WB ⟨w, none⟩ σ) el) tw hs1 hs2 hc hN hi ok hg ht he hs) fun σ H Q q => t_compX (K := ⟨X.K, none⟩) (fun _ => trivial) tk ho q
theorem ds_setcX {w : WX} {i : Nat} {y : Str} {py : Pos} {elt tg iter : Expr} {ifs : List Expr} {scope : Scope} {own : List (Str × Nat)} {pos spos : Pos} {m : IM} {t : Tgt} {g : TG} {tst : TM} {el : EM} (tw : Takes X w) (hs1 : X.stack = X.env :: X.outer) (hs2 : X.env.frame = some X.env.locals) (hc : X.calm = true) (hN : X.N.Nodup) (hy : X.N[i]? = some y) (hyl : X.env.scope.names.lookup y = some .local)
    (hsw : swapsWith (.ListComp elt [⟨tg, iter, ifs, 0⟩] scope pos) (some (.Name y py)) spos.line X.env = pure true) (hi : DI X ⟨w, none⟩ tg iter m) (ok : BlkOk X.N X.env.scope scope own)
    (tk : TgOk ⟨X.K, none⟩ t g) (ho : ∀ i ∈ t.slots, i ∈ own.map (·.2))
    (hg : ∀ s H C cl fp E, PG (BlkCxX X scope s H C cl fp E) tg g) (ht : ∀ σ s H C cl fp E, Takes (BlkCxX X scope s H C cl fp E) (WB ⟨w, none⟩ σ).w → DTs (BlkCxX X scope s H C cl fp E) (WB ⟨w, none⟩ σ) ifs tst)
    (he : ∀ σ s H C cl fp E, Takes (BlkCxX X scope s H C cl fp E) (WB ⟨w, none⟩ σ).w → DE (BlkCxX X scope s H C cl fp E) (WB ⟨w, none⟩ σ) elt el) (hs : ∀ x, foldedSetIterable iter X.env x = pure x) :
    DS X ⟨w, none⟩ (.Assign [.Name y py] (.ListComp elt [⟨tg, iter, ifs, 0⟩] scope pos) spos) (asgS (compXE m (own.map (·.2)) t tst el) (.one i)) :=
  ps_imp (ps_setLcX (tt := fun σ => tT ⟨X.K, none⟩ (WB ⟨w, none⟩ σ) tst) (te := fun σ => tE ⟨X.K, none⟩ (WB ⟨w, none⟩ σ) el) tw hs1 hs2 hc hN hy hyl hsw hi ok hg ht he hs) fun D σ H q => by
    have q2 : tAsg (tE ⟨X.K, none⟩ ⟨w, none⟩ (compXE m (own.map (·.2)) t tst el)) (gName i) D σ H := t_asg (tg_one (K := ⟨X.K, none⟩) i trivial) q
    exact t_compX (K := ⟨X.K, none⟩) (fun _ => trivial) tk ho q2

/-! ### raise -/
def raiseS (c : Str) : SM := fun e h => .exc c e h
theorem ds_raise {x m : Str} {j : Nat} {p p2 pos pos2 : Pos} (hc : X.calm = true) (tk : Takes X W.w) (q : PySem.W.excIn X.K (He.ga X.K x) He.veBase "ValueError.__new__" = true) (gC : X.mg x = some (.ref (He.ga X.K x))) (kC : PySem.W.keepIn X.K (.ref (He.ga X.K x)) = true) (r : Raises X (.ref (He.ga X.K x))) (hg : Gl X x)
    (hdb : (x == ("__debug__" : Str)) = false) : DS X W (.Raise (some (.Call (.Name x p) [.Constant (.str m) j p2] [] pos)) none pos2) (raiseS x) :=
  ps_imp (ps_raise hc tk (pmk_own PySem.F.excBase_ValueError q gC kC r hg hdb)) fun D σ H ⟨ρ, env, h, rl, p⟩ => p ρ σ H rl.refl rl.eis rl.ewf

def raise1S (c : Str) (m : EM) : SM := fun e h => (m e h).bindS e fun _ h1 => .exc c e h1
theorem ds_raise1 {x : Str} {e : Expr} {m : EM} {p pos pos2 : Pos} (hc : X.calm = true) (tk : Takes X W.w) (q : PySem.W.excIn X.K (He.ga X.K x) He.veBase "ValueError.__new__" = true) (gC : X.mg x = some (.ref (He.ga X.K x))) (kC : PySem.W.keepIn X.K (.ref (He.ga X.K x)) = true) (r : Raises X (.ref (He.ga X.K x))) (hg : Gl X x)
    (hdb : (x == ("__debug__" : Str)) = false) (he : DE X W e m) (hs : isStar e = false) : DS X W (.Raise (some (.Call (.Name x p) [e] [] pos)) none pos2) (raise1S x m) :=
  ps_imp (ps_raise hc tk (SkE.pmk_own1 PySem.F.excBase_ValueError q gC kC r hg he (star_no hs [] _) hdb)) fun D σ H ⟨ρ, env, h, rl, p⟩ => by
    refine tG_mono (PostS.bind (R := RD (kx X W)) rl p) fun b H1 ⟨ρ1, h1, a1, x1, ra1, p1⟩ => ?_
    have rl1 := rl.ext x1
    exact p1 ρ1 σ H1 x1.at.refl rl1.eis rl1.ewf
/-! ### try -/
def unb (o : Option Nat) : Out → Out
  | .nxt e h => .nxt (match o with | some i => e.set i none | none => e) h
  | .brk e h => .brk (match o with | some i => e.set i none | none => e) h
  | .cnt e h => .cnt (match o with | some i => e.set i none | none => e) h
  | .ret d h => .ret d h
  | .exc _ _ _ => .stuck
  | .stuck => .stuck
/-- sub c: does the clause take an error of the class c; suite c: what it does -/
def tryS (b : SM) (o : Option Nat) (sub : Str → Option Bool) (suite : Str → SM) : SM := fun e h => match b e h with
  | .exc c e1 h1 => (match sub c with
    | some true => (match o with
      | some i => if i < e1.length then unb o (suite c (e1.set i none) h1) else .stuck
      | none => unb o (suite c e1 h1))
    | some false => .exc c e1 h1
    | none => .stuck)
  | .nxt e1 h1 => .nxt e1 h1
  | .ret d h1 => .ret d h1
  | .brk e1 h1 => .brk e1 h1
  | .cnt e1 h1 => .cnt e1 h1
  | .stuck => .stuck
theorem EnvIs.unset {K K' : KX} {ρ : List Addr} {H : Hp} {env : Env} {σ : L2.St} (hk : ∀ ρ H d v, Is K ρ H d v → Is K' ρ H d v) (hj : ∀ σ, K'.J σ) (h : EnvIs K ρ H env σ) : EnvIs K' ρ H env σ :=
  ⟨h.len, (fun i d e => let ⟨v, e1, e2⟩ := h.at_ i d e; ⟨v, e1, hk _ _ _ _ e2⟩), hj σ⟩
mutual
theorem Is.hx {F : PySem.W.Frag} {a b : Option (Nat × Addr)} {ρ : List Addr} {H : Hp} : ∀ (d : D) (v : V), Is ⟨F, a⟩ ρ H d v → Is ⟨F, b⟩ ρ H d v
  | .non, v, h => by unfold Is at h ⊢; exact h
  | .bl _, v, h => by unfold Is at h ⊢; exact h
  | .int _, v, h => by unfold Is at h ⊢; exact h
  | .str _, v, h => by unfold Is at h ⊢; exact h
  | .ty _, v, h => by unfold Is at h ⊢; exact h
  | .glb _, v, h => by unfold Is at h ⊢; exact h
  | .ref _, v, h => by unfold Is at h ⊢; exact h
  | .tup ds, v, h => by
    unfold Is at h ⊢
    obtain ⟨a, xs, e, s, r⟩ := h
    exact ⟨a, xs, e, s, IsL.hx ds xs r⟩
  | .frl ds, v, h => by
    unfold Is at h ⊢
    obtain ⟨a, xs, e, s, r⟩ := h
    exact ⟨a, xs, e, s, IsL.hx ds xs r⟩
theorem IsL.hx {F : PySem.W.Frag} {a b : Option (Nat × Addr)} {ρ : List Addr} {H : Hp} : ∀ (ds : List D) (xs : List V), IsL ⟨F, a⟩ ρ H ds xs → IsL ⟨F, b⟩ ρ H ds xs
  | [], xs, h => by unfold IsL at h ⊢; exact h
  | d :: ds, xs, h => by
    unfold IsL at h ⊢
    obtain ⟨x, r, e, h1, h2⟩ := h
    exact ⟨x, r, e, Is.hx d x h1, IsL.hx ds r h2⟩
end
theorem IsF.hx {F : PySem.W.Frag} {a b : Option (Nat × Addr)} {ρ : List Addr} {H : Hp} : ∀ (ds : List (Str × D)) (xs : List (Str × V)), IsF ⟨F, a⟩ ρ H ds xs → IsF ⟨F, b⟩ ρ H ds xs
  | [], xs, h => by unfold IsF at h ⊢; exact h
  | d :: ds, xs, h => by
    unfold IsF at h ⊢
    obtain ⟨x, r, e, h1, h2⟩ := h
    exact ⟨x, r, e, Is.hx d.2 x h1, IsF.hx ds r h2⟩
theorem CellIs.hx {F : PySem.W.Frag} {a b : Option (Nat × Addr)} {ρ : List Addr} {H : Hp} {p : Addr} {c : Cell} (h : CellIs ⟨F, a⟩ ρ H p c) : CellIs ⟨F, b⟩ ρ H p c := by
  cases c with
  | lst ds => obtain ⟨xs, h1, h2⟩ := h; exact ⟨xs, h1, IsL.hx ds xs h2⟩
  | inst c fs => obtain ⟨dx, vs, h1, h2⟩ := h; exact ⟨dx, vs, h1, IsF.hx fs vs h2⟩
  | dict kvs => exact h
theorem HRel.hx {F : PySem.W.Frag} {a b : Option (Nat × Addr)} {ρ : List Addr} {H : Hp} {cs : List Cell} (h : HRel ⟨F, a⟩ ρ H cs) : HRel ⟨F, b⟩ ρ H cs := ⟨h.len, h.nd, fun n c p e1 e2 => (h.at_ n c p e1 e2).hx⟩
theorem Ext.hx {F : PySem.W.Frag} {a b : Option (Nat × Addr)} {ρ ρ1 : List Addr} {H H1 : Hp} {h1 : PH} (x : Ext ⟨F, a⟩ ρ H h1 ρ1 H1) : Ext ⟨F, b⟩ ρ H h1 ρ1 H1 := ⟨x.pre, x.fresh, x.frame, x.kept, x.rel.hx, x.wf⟩
theorem RD.hx {F : PySem.W.Frag} {a b : Option (Nat × Addr)} {ρ : List Addr} {H : Hp} {n : Nat} {d : D} {v : V} (r : RD ⟨F, a⟩ ρ H n d v) : RD ⟨F, b⟩ ρ H n d v := ⟨Is.hx d v r.1, r.2⟩
theorem EnvWf.unset {env : Env} {n i : Nat} (w : EnvWf env n) : EnvWf (env.set i none) n := fun j d e => by
  by_cases hv : i = j
  · subst hv
    by_cases hl : i < env.length
    · rw [List.getElem?_set_self hl] at e; cases e
    · rw [List.getElem?_eq_none (by rw [List.length_set]; omega)] at e; cases e
  · rw [List.getElem?_set_ne hv] at e
    exact w j d e
/-- into the suite: the slot i holds the error -/
theorem EnvIs.into {F : PySem.W.Frag} {ρ : List Addr} {H : Hp} {env : Env} {σ : L2.St} {i : Nat} {a : Addr} (hi : i < σ.length) (h : EnvIs ⟨F, none⟩ ρ H env σ) : EnvIs ⟨F, some (i, a)⟩ ρ H (env.set i none) (σ.set i (some (.ref a))) := by
  refine ⟨by rw [List.length_set, List.length_set]; exact h.len, fun j d e => ?_, ?_⟩
  · by_cases hv : i = j
    · subst hv
      rw [List.getElem?_set_self (by rw [h.len]; exact hi)] at e; cases e
    · rw [List.getElem?_set_ne hv] at e ⊢
      obtain ⟨v, e1, e2⟩ := h.at_ j d e
      exact ⟨v, e1, Is.hx d v e2⟩
  · show (σ.set i (some (V.ref a)))[i]? = some (some (V.ref a))
    rw [List.getElem?_set_self hi]
/-- out of it -/
theorem EnvIs.outof {F : PySem.W.Frag} {ρ : List Addr} {H : Hp} {env : Env} {σ : L2.St} {i : Nat} {a : Addr} (h : EnvIs ⟨F, some (i, a)⟩ ρ H env σ) : EnvIs ⟨F, none⟩ ρ H (env.set i none) (σ.set i none) := by
  refine ⟨by rw [List.length_set, List.length_set]; exact h.len, fun j d e => ?_, trivial⟩
  by_cases hv : i = j
  · subst hv
    by_cases hl : i < env.length
    · rw [List.getElem?_set_self hl] at e; cases e
    · rw [List.getElem?_eq_none (by rw [List.length_set]; omega)] at e; cases e
  · rw [List.getElem?_set_ne hv] at e ⊢
    obtain ⟨v, e1, e2⟩ := h.at_ j d e
    exact ⟨v, e1, Is.hx d v e2⟩
/-- try .. except x as n (n in slot i) -/
theorem ds_try_as {w : WX} {x n : Str} {i : Nat} {body suite : List Stmt} {b₀ : Stmt} {np pos pos' : Pos} {b : SM} {sub : Str → Option Bool} {su : Str → SM} (hs : X.stack = X.env :: X.outer) (hf : X.env.frame = some X.env.locals) (hN : X.N.Nodup) (hi : X.N[i]? = some n) (hln : X.env.kindOf n = some .local)
    (hc : Names X x (.ref (He.ga X.K x))) (tk : Takes X w) (hsub : ∀ c k, sub c = some k → PySem.W.exmOne X.K (.ref (He.ga X.K c)) (.ref (He.ga X.K x)) = some k)
    (hb : ∀ (w' : WX) (pn : List (Addr × Obj)) (xe : Value → Shared → Prop), Takes (X.tr pn xe) w' → PassesOwn (model X.prog X.w) X.A X.env xe → DSs (X.tr pn xe) ⟨w', none⟩ body b)
    (hsu : ∀ (c : Str) (a : Addr) (oe : Obj) (pn : List (Addr × Obj)), Zc (.ref (He.ga X.K c)) none oe → (∃ vs, oe.data = .fields vs) → sub c = some true → DSs (X.suite a ((a, oe) :: pn)) ⟨fun _ _ _ _ => False, some (i, a)⟩ (b₀ :: suite) (su c)) :
    DS X ⟨w, none⟩ (.Try body [.ExceptHandler (some (.Name x np)) (some n) (b₀ :: suite) pos'] [] [] pos) (tryS b (some i) sub su) := by
  let ts : Addr → Value → Option Addr → TS := fun a cls d D σ H => ∃ c, cls = .ref (He.ga X.K c) ∧ d = none ∧ sub c = some true ∧ tS ⟨X.K, some (i, a)⟩ ⟨fun _ _ _ _ => False, some (i, a)⟩ (su c) D σ H
  refine ps_imp (ps_try_as (tb := fun W' => tS ⟨X.K, none⟩ ⟨W', none⟩ b) (ts := ts) hs hf hN hi hln hc tk hb (fun a oe cls d pn hz hd => ⟨fun pins s σ H D I ⟨c, ec, ed, ht, q⟩ => ?_⟩)) fun D σ H ⟨ρ, env, h, rl, p⟩ => ?_
  · subst ec
    subst ed
    exact (hsu c a oe pn hz hd ht).run pins s σ H D I q
  · refine ⟨ρ, env, h, rl, ?_⟩
    unfold tryS at p
    cases eb : b env h with
    | stuck => rw [eb] at p; exact p
    | nxt e1 h1 => rw [eb] at p; exact p
    | ret e1 h1 => rw [eb] at p; exact p
    | brk e1 h1 => rw [eb] at p; exact p
    | cnt e1 h1 => rw [eb] at p; exact p
    | exc c e1 h1 =>
      rw [eb] at p
      intro ρ1 σ1 H1 x1 ei1 w1
      dsimp only at p
      cases es : sub c with
      | none => rw [es] at p; exact p.elim
      | some k =>
        rw [es] at p
        refine ⟨k, hsub c k es, fun ek a na => ?_, fun ek => ?_⟩
        · subst ek
          dsimp only at p
          split at p
          case isFalse => exact p.elim
          rename_i hl
          refine ⟨c, rfl, rfl, es, ρ1, e1.set i none, h1, ⟨EnvIs.into (by rw [← ei1.len]; exact hl) ei1, x1.rel.hx, x1.wf, w1.unset⟩, ?_⟩
          cases eu : su c (e1.set i none) h1 with
          | stuck => rw [eu] at p; exact p
          | exc _ _ _ => rw [eu] at p; exact p.elim
          | nxt e2 h2 =>
            rw [eu] at p
            exact fun ρ2 σ2 H2 x2 ei2 w2 => p ρ2 _ H2 (x1.trans x2.hx) ei2.outof w2.unset
          | brk e2 h2 =>
            rw [eu] at p
            exact fun ρ2 σ2 H2 x2 ei2 w2 => p ρ2 _ H2 (x1.trans x2.hx) ei2.outof w2.unset
          | cnt e2 h2 =>
            rw [eu] at p
            exact fun ρ2 σ2 H2 x2 ei2 w2 => p ρ2 _ H2 (x1.trans x2.hx) ei2.outof w2.unset
          | ret d2 h2 =>
            rw [eu] at p
            exact fun ρ2 v2 H2 x2 r2 => p ρ2 v2 H2 (x1.trans x2.hx) r2.hx
        · subst ek
          exact p ρ1 σ1 H1 x1 ei1 w1
/-- try .. except x: -/
theorem ds_try {w : WX} {x : Str} {body suite : List Stmt} {b₀ : Stmt} {np pos pos' : Pos} {b : SM} {sub : Str → Option Bool} {su : Str → SM} (hs : X.stack = X.env :: X.outer) (hf : X.env.frame = some X.env.locals)
    (hc : Names X x (.ref (He.ga X.K x))) (tk : Takes X w) (hsub : ∀ c k, sub c = some k → PySem.W.exmOne X.K (.ref (He.ga X.K c)) (.ref (He.ga X.K x)) = some k)
    (hb : ∀ (w' : WX) (pn : List (Addr × Obj)) (xe : Value → Shared → Prop), Takes (X.tr pn xe) w' → PassesOwn (model X.prog X.w) X.A X.env xe → DSs (X.tr pn xe) ⟨w', none⟩ body b)
    (hsu : ∀ (c : Str) (a : Addr) (oe : Obj) (pn : List (Addr × Obj)), Zc (.ref (He.ga X.K c)) none oe → (∃ vs, oe.data = .fields vs) → sub c = some true → DSs (X.suite a ((a, oe) :: pn)) ⟨fun _ _ _ _ => False, none⟩ (b₀ :: suite) (su c)) :
    DS X ⟨w, none⟩ (.Try body [.ExceptHandler (some (.Name x np)) none (b₀ :: suite) pos'] [] [] pos) (tryS b none sub su) := by
  let ts : Addr → Value → Option Addr → TS := fun a cls d D σ H => ∃ c, cls = .ref (He.ga X.K c) ∧ d = none ∧ sub c = some true ∧ tS ⟨X.K, none⟩ ⟨fun _ _ _ _ => False, none⟩ (su c) D σ H
  refine ps_imp (ps_try_only (tb := fun W' => tS ⟨X.K, none⟩ ⟨W', none⟩ b) (ts := ts) hs hf hc tk hb (fun a oe cls d pn hz hd => ⟨fun pins s σ H D I ⟨c, ec, ed, ht, q⟩ => ?_⟩)) fun D σ H ⟨ρ, env, h, rl, p⟩ => ?_
  · subst ec
    subst ed
    exact (hsu c a oe pn hz hd ht).run pins s σ H D I q
  · refine ⟨ρ, env, h, rl, ?_⟩
    unfold tryS at p
    cases eb : b env h with
    | stuck => rw [eb] at p; exact p
    | nxt e1 h1 => rw [eb] at p; exact p
    | ret e1 h1 => rw [eb] at p; exact p
    | brk e1 h1 => rw [eb] at p; exact p
    | cnt e1 h1 => rw [eb] at p; exact p
    | exc c e1 h1 =>
      rw [eb] at p
      intro ρ1 σ1 H1 x1 ei1 w1
      dsimp only at p
      cases es : sub c with
      | none => rw [es] at p; exact p.elim
      | some k =>
        rw [es] at p
        refine ⟨k, hsub c k es, fun ek a na => ?_, fun ek => ?_⟩
        · subst ek
          refine ⟨c, rfl, rfl, es, ρ1, e1, h1, ⟨ei1, x1.rel, x1.wf, w1⟩, ?_⟩
          dsimp only at p
          cases eu : su c e1 h1 with
          | stuck => rw [eu] at p; exact p
          | exc _ _ _ => rw [eu] at p; exact p.elim
          | nxt e2 h2 =>
            rw [eu] at p
            exact fun ρ2 σ2 H2 x2 ei2 w2 => p ρ2 _ H2 (x1.trans x2) ei2 w2
          | brk e2 h2 =>
            rw [eu] at p
            exact fun ρ2 σ2 H2 x2 ei2 w2 => p ρ2 _ H2 (x1.trans x2) ei2 w2
          | cnt e2 h2 =>
            rw [eu] at p
            exact fun ρ2 σ2 H2 x2 ei2 w2 => p ρ2 _ H2 (x1.trans x2) ei2 w2
          | ret d2 h2 =>
            rw [eu] at p
            exact fun ρ2 v2 H2 x2 r2 => p ρ2 v2 H2 (x1.trans x2) r2
        · subst ek
          exact p ρ1 σ1 H1 x1 ei1 w1
end
end Dy

/-! isinstance; the table of a program; the compiler of expressions. -/
namespace Dy
open PySem PySem.Spec PyProof.Rows L2
/-! ### isinstance -/
def tyName (h : PH) : D → Option String
  | .non => some "NoneType"
  | .bl _ => some "bool"
  | .int _ => some "int"
  | .str _ => some "str"
  | .tup _ => some "tuple"
  | .frl _ => some "list"
  | .ref n => (match h.cs[n]? with
    | some (.lst _) => some "list"
    | _ => none)
  | _ => none
def tyAsk : List String := ["int", "bool", "str", "tuple", "list"]
def isiB (a b : String) : Bool := a == b || (a == "bool" && b == "int")
theorem isiB_ok : (["NoneType", "bool", "int", "str", "tuple", "list"].all fun a => tyAsk.all fun b => decide (kitB a b = some (isiB a b))) = true := by decide +kernel
def isiF (d c : D) (h : PH) : Res D := match tyName h d, c with
  | some a, .ty b => if tyAsk.contains b = true then .ok (.bl (isiB a b)) h else .stuck
  | _, _ => .stuck
section
variable {X : Cx} {W : WJ}
theorem tyName_is {K : KX} {ρ : List Addr} {h : PH} {H : Hp} (at_ : At K ρ h H) {d : D} {v : V} {a : String} (e : tyName h d = some a) (r : RD K ρ H h.cs.length d v) :
    TyX K.K H v (.type a) ∧ a ∈ ["NoneType", "bool", "int", "str", "tuple", "list"] := by
  cases d with
  | non => cases e; rw [r.1.non]; exact ⟨.base .non, by simp⟩
  | bl b => cases e; rw [r.1.bl]; exact ⟨.base (.bl b), by simp⟩
  | int b => cases e; rw [r.1.int]; exact ⟨.base (.int b), by simp⟩
  | str b => cases e; rw [r.1.str]; exact ⟨.base (.str b), by simp⟩
  | tup ds =>
    cases e
    obtain ⟨p, xs, rfl, s, _⟩ := r.1.tup
    refine ⟨?_, by simp⟩
    rcases s with (s | ⟨o, s⟩) | ⟨o, _, _, s, c, _⟩
    · exact .base (.tup s)
    · exact .fTuple s
    · exact .kTuple s c
  | frl ds =>
    cases e
    obtain ⟨p, xs, rfl, s, _⟩ := r.1.frl
    refine ⟨?_, by simp⟩
    rcases s with ⟨o, s⟩ | ⟨o, _, _, s, c, _⟩
    · exact .base (.frz s)
    · exact .kList s c
  | ref n =>
    have e' : (match h.cs[n]? with
    | some (.lst _) => some "list"
    | _ => none) = some a := e
    split at e'
    · rename_i ds q
      cases e'
      obtain ⟨p, xs, rfl, _, h1, _⟩ := at_.lst q r.1
      exact ⟨.base (.lst h1), by simp⟩
    · cases e'
  | _ => cases e
theorem o_isi : OpN (kx X W) W (f2 isiF) (rIsi X.K) := by
  intro σ ρ h H ds xs Q at_ rl p
  unfold f2 at p
  split at p
  · rename_i d c
    unfold isiF at p
    split at p
    · rename_i a b e
      split at p
      · rename_i hb
        obtain ⟨v, u, rfl, i1, i2⟩ := rl.1.two
        have l : mrL [d, .ty b] ≤ h.cs.length := rl.2
        unfold mrL at l
        obtain ⟨t1, t2⟩ := tyName_is at_ e ⟨i1, by omega⟩
        unfold Is at i2
        subst i2
        have k : kitB a b = some (isiB a b) := by
          have z := List.all_eq_true.mp isiB_ok a t2
          exact of_decide_eq_true (List.all_eq_true.mp z b (by simpa using hb))
        exact ⟨v, .ty b, .type a, .type b, _, rfl, .ty b, t1, kit_ty k, p ρ _ H at_.refl is_bl⟩
      · exact p.elim
    · exact p.elim
  · exact p.elim

def gcdF : D → D → PH → Res D := stepI fun i j => some (.int ((Nat.gcd i.natAbs j.natAbs : Nat) : Int))
theorem o_gcd : OpN (kx X W) W (f2 gcdF) rGcd := by
  intro σ ρ h H ds xs Q at_ rl p
  unfold f2 at p
  split at p
  · rename_i d c
    unfold gcdF stepI at p
    split at p
    · rename_i i j
      obtain ⟨v, u, rfl, i1, i2⟩ := rl.1.two
      rw [i1.int, i2.int]
      exact ⟨i, j, rfl, p ρ _ H at_.refl is_int⟩
    · exact p.elim
  · exact p.elim
/-! ### what the top has left, as the code uses it -/
structure Tab where
  fn : Str → Option (Nat × Fn)
  con : Str → Option D
  free : Str → Bool
  exc : Str → Bool
  /-- is an error of the class c one of the class x -/
  sub : Str → Str → Option Bool
  /-- is it the module's name of math.gcd -/
  gcd : Str → Bool
  /-- .. one of a built-in class -/
  subT : Str → Str → Option Bool
  /-- a dict of the module with text keys -/
  dic : Str → Option (List (Str × D))
structure DicOk (w : World) (K : PySem.W.Frag) (mg : Str → Option Value) (x : Str) (l : List (Str × D)) : Prop where
  mg : mg x = some (.ref (He.ga K x))
  kd : ∃ es n, KDict K w (He.ga K x) es n
  there : ∀ z d, l.lookup z = some d → ∃ u v, PySem.W.nsIn K (He.ga K x) z = some (some u) ∧ RelV v u ∧ (∀ hx ρ H, Is ⟨K, hx⟩ ρ H d v) ∧ d.mr = 0
  not_ : ∀ z, l.lookup z = none → PySem.W.nsIn K (He.ga K x) z = some none
structure TabOk (P : Program) (w : World) (K : PySem.W.Frag) (mg : Str → Option Value) (base : Heap) (T : Tab) (k : Nat) : Prop where
  fn : ∀ x n f, T.fn x = some (n, f) → ∃ a fd ps, mg x = some (.ref a) ∧ PySem.W.keepIn K (.ref a) = true ∧ Binds K fd ps [] ∧ FnOk P w K mg base (L2.CX P w) k a fd ps (spD ⟨K, none⟩ n f) ∧ a = He.ga K x
  con : ∀ x d, T.con x = some d → ∃ u v, mg x = some u ∧ RelV v u ∧ (∀ hx ρ H, Is ⟨K, hx⟩ ρ H d v) ∧ d.mr = 0
  free : ∀ x, T.free x = true → mg x = none
  exc : ∀ x, T.exc x = true → mg x = some (.ref (He.ga K x)) ∧ (He.Fa.exc x).ok K = true
  sub : ∀ c x b, T.sub c x = some b → mg x = some (.ref (He.ga K x)) ∧ PySem.W.exmOne K (.ref (He.ga K c)) (.ref (He.ga K x)) = some b ∧ PySem.W.kitOne K (.ref (He.ga K c)) (.ref (He.ga K x)) = some b ∧ ExcC K (He.ga K c)
  gcd : ∀ x, T.gcd x = true → mg x = some (.builtin "math.gcd")
  subT : ∀ c x b, T.subT c x = some b → mg x = none ∧ x = "ValueError" ∧ PySem.W.kitOne K (.ref (He.ga K c)) (.type "ValueError") = some b ∧ ExcC K (He.ga K c)
  dic : ∀ x l, T.dic x = some l → DicOk w K mg x l
/-- the static part of where code stands -/
structure SC where
  N : List Str
  sc : Scope
  T : Tab
  k : Nat
  calm : Bool
  top : Bool
  /-- the slot and the class of the error that an except suite holds -/
  hx : Option (Nat × Str)
  /-- the names whose cells are its own -/
  fnc : Str → Bool
  /-- may statements stand here -/
  stm : Bool
structure CxOk (g : SC) (X : Cx) (W : WJ) : Prop where
  hN : X.N = g.N
  nd : g.N.Nodup
  sc : X.env.scope = g.sc
  calm : g.calm = true → X.calm = true ∧ W.hx = none ∧ g.hx = none ∧ Room g.k X.A
  tk : Takes X W.w
  po : g.stm = true → PassesOwn (model X.prog X.w) X.A X.env X.xe
  top : g.top = true → X.stack = X.env :: X.outer ∧ X.env.frame = some X.env.locals
  fn : ∀ x, g.fnc x = true → X.fn x = true
  tab : TabOk X.prog X.w X.K X.mg X.base g.T g.k
  units : X.A.units + 65 < cLine
  kind : g.sc.kind = .function
  hx : ∀ i c, g.hx = some (i, c) → ∃ a oe pn X0, W.hx = some (i, a) ∧ Zc (.ref (He.ga X.K c)) none oe ∧ (∃ vs, oe.data = .fields vs) ∧ X = Cx.suite X0 a ((a, oe) :: pn)
  hx0 : g.hx = none → W.hx = none
def ixOf : List Str → Str → Option Nat
  | [], _ => none
  | y :: r, x => if y = x then some 0 else (match ixOf r x with
    | some i => some (i + 1)
    | none => none)
theorem ixOf_get : ∀ {N : List Str} {x : Str} {i : Nat}, ixOf N x = some i → N[i]? = some x
  | [], x, i, h => by cases h
  | y :: r, x, i, h => by
    unfold ixOf at h
    split at h
    · rename_i e
      cases h; rw [e]; rfl
    · split at h
      · rename_i j q
        cases h
        show r[j]? = some x
        exact ixOf_get q
      · cases h
/-- a name of the def's own, where it is read -/
def slot (g : SC) (x : Str) : Option Nat := match g.sc.names.lookup x with
  | some .local => ixOf g.N x
  | some .cell => ixOf g.N x
  | some .free => ixOf g.N x
  | _ => none
/-- .. where it is stored -/
def sslot (g : SC) (x : Str) : Option Nat := match g.sc.names.lookup x with
  | some .local => ixOf g.N x
  | some .cell => if g.fnc x = true then ixOf g.N x else none
  | _ => none
def isGl (g : SC) (x : Str) : Bool := match g.sc.names.lookup x with
  | some .globalImplicit => true
  | _ => false
def okName (x : Str) : Bool := !(x == ("__debug__" : Str)) && (!(x == ("__classdict__" : Str)) && !(x == ("__name__" : Str)))
theorem okName_is {x : Str} (h : okName x = true) : (x == ("__debug__" : Str)) = false ∧ (x == ("__classdict__" : Str)) = false ∧ x ≠ "__name__" := by
  unfold okName at h
  simp only [Bool.and_eq_true, Bool.not_eq_true'] at h
  exact ⟨h.1, h.2.1, by intro e; have := h.2.2; rw [e] at this; simp at this⟩
variable {g : SC}
theorem slot_is (c : CxOk g X W) {x : Str} {i : Nat} (h : slot g x = some i) : X.N[i]? = some x ∧ Vis X.env.scope x := by
  unfold slot at h
  rw [c.hN, c.sc]
  split at h
  · rename_i e; exact ⟨ixOf_get h, .inl e⟩
  · rename_i e; exact ⟨ixOf_get h, .inr (.inl e)⟩
  · rename_i e; exact ⟨ixOf_get h, .inr (.inr e)⟩
  · cases h
theorem sslot_is (c : CxOk g X W) {x : Str} {i : Nat} (h : sslot g x = some i) : X.N[i]? = some x ∧ Loc X.env.scope x ∧ (X.fn x = true ∨ X.env.scope.names.lookup x = some .local) := by
  unfold sslot at h
  rw [c.hN, c.sc]
  split at h
  · rename_i e; exact ⟨ixOf_get h, .inl e, .inr e⟩
  · rename_i e
    split at h
    · rename_i f; exact ⟨ixOf_get h, .inr e, .inl (c.fn x f)⟩
    · cases h
  · cases h
theorem gl_is (c : CxOk g X W) {x : Str} (h : isGl g x = true) : Gl X x := by
  unfold isGl at h
  show X.env.scope.names.lookup x = some .globalImplicit
  rw [c.sc]
  split at h
  · rename_i e; exact e
  · cases h
/-- the built-in classes that isinstance asks for -/
def tyNames : List (Str × String) := [("int", "int"), ("bool", "bool"), ("str", "str"), ("tuple", "tuple"), ("list", "list")]
theorem tyNames_ok : (tyNames.all fun p => decide (bootBuiltins p.1 = some (.type p.2))) = true := by decide +kernel
def tyOf (x : Str) : Option String := tyNames.lookup x
theorem lookup_mem {α : Type} : ∀ {l : List (Str × α)} {x : Str} {a : α}, l.lookup x = some a → (x, a) ∈ l
  | [], x, a, h => by cases h
  | (y, b) :: r, x, a, h => by
    rw [List.lookup_cons] at h
    split at h
    · rename_i e
      cases h
      rw [eq_of_beq e]; exact List.mem_cons_self
    · exact List.mem_cons_of_mem _ (lookup_mem h)
theorem tyOf_is {x : Str} {t : String} (h : tyOf x = some t) : bootBuiltins x = some (.type t) := of_decide_eq_true (List.all_eq_true.mp tyNames_ok _ (lookup_mem h))
/-- a name -/
def cName (g : SC) (x : Str) : EM := if okName x = true then (match slot g x with
  | some i => vE i
  | none => if isGl g x = true then (match g.T.con x with
    | some d => cE d
    | none => if (g.T.fn x).isSome = true then cE (.glb x) else if g.T.free x = true then (match tyOf x with
      | some t => cE (.ty t)
      | none => stuckE) else stuckE) else stuckE) else stuckE
theorem s_name (c : CxOk g X W) (x : Str) (pos : Pos) : DE X W (.Name x pos) (cName g x) := by
  unfold cName
  split
  · rename_i ok
    obtain ⟨o1, o2, o3⟩ := okName_is ok
    split
    · rename_i i e
      obtain ⟨h1, h2⟩ := slot_is c e
      exact de_var (pe_var h1 h2 o1 o2)
    · split
      · rename_i hg
        split
        · rename_i d e
          obtain ⟨u, v, h1, h2, h3, h4⟩ := c.tab.con x d e
          exact de_const (pe_glob (gl_is c hg) h1 h2 o1) (fun ρ H => h3 _ ρ H) h4
        · split
          · rename_i hs
            cases e : g.T.fn x with
            | none => rw [e] at hs; cases hs
            | some nf =>
              obtain ⟨a, fd, ps, t1, t2, t3, t4, rfl⟩ := c.tab.fn x nf.1 nf.2 e
              exact de_const (pe_glob (v := .ref (He.ga X.K x)) (gl_is c hg) t1 rfl o1) (fun ρ H => by unfold Is; rfl) rfl
          split
          · rename_i hf
            split
            · rename_i t e
              exact de_const (pe_bltn (v := .ty t) (gl_is c hg) (c.tab.free x hf) (tyOf_is e) rfl o3 o1) (fun ρ H => by unfold Is; rfl) rfl
            · exact de_stuck
          · exact de_stuck
      · exact de_stuck
  · exact de_stuck
/-! ### dicts of the module -/
def dIx (x : Str) (l : List (Str × D)) : D → D → PH → Res D := fun a b h => match a, b with
  | .glb y, .str z => if y = x then (match l.lookup z with
    | some d => .ok d h
    | none => .stuck) else .stuck
  | _, _ => .stuck
def dIn (x : Str) (l : List (Str × D)) : D → D → PH → Res D := fun a b h => match a, b with
  | .str z, .glb y => if y = x then .ok (.bl (l.lookup z).isSome) h else .stuck
  | _, _ => .stuck
def dNotIn (x : Str) (l : List (Str × D)) : D → D → PH → Res D := fun a b h => match a, b with
  | .str z, .glb y => if y = x then .ok (.bl (!(l.lookup z).isSome)) h else .stuck
  | _, _ => .stuck
theorem o_dIx {x : Str} {l : List (Str × D)} {mg : Str → Option Value} (k : DicOk X.w X.K mg x l) : Op2 (kx X W) W (dIx x l) (rIxD X.K X.w) := by
  intro σ ρ h H d e x' y' Q at_ rx ry p
  unfold dIx at p
  split at p
  · rename_i y z
    split at p
    · rename_i ey
      subst ey
      split at p
      · rename_i dd q
        obtain ⟨u, v, n1, rv, is, m0⟩ := k.there z dd q
        obtain ⟨es, n, kd⟩ := k.kd
        have e1 : x' = .ref (He.ga X.K y) := by have := rx.1; unfold Is at this; exact this
        exact ⟨_, z, v, e1, ry.1.str, ⟨es, n, u, kd.at_, kd.lit, n1, rv⟩, p ρ v H at_.refl ⟨is _ ρ H, by rw [m0]; exact Nat.zero_le _⟩⟩
      · exact p.elim
    · exact p.elim
  · exact p.elim
theorem nsIn_r {w : World} {K : PySem.W.Frag} {mg : Str → Option Value} {x : Str} {l : List (Str × D)} (k : DicOk w K mg x l) (z : Str) : ∃ r, PySem.W.nsIn K (He.ga K x) z = some r ∧ r.isSome = (l.lookup z).isSome := by
  cases q : l.lookup z with
  | none => exact ⟨none, k.not_ z q, rfl⟩
  | some d =>
    obtain ⟨u, v, n1, _⟩ := k.there z d q
    exact ⟨some u, n1, rfl⟩
theorem o_dIn {x : Str} {l : List (Str × D)} {mg : Str → Option Value} (k : DicOk X.w X.K mg x l) : Op2 (kx X W) W (dIn x l) (fun x' y' H Q => ∃ (z : Str) (r : Option Value), x' = .str z ∧ y' = .ref (He.ga X.K x) ∧ PySem.W.nsIn X.K (He.ga X.K x) z = some r ∧ Q (.bl r.isSome) H) := by
  intro σ ρ h H d e x' y' Q at_ rx ry p
  unfold dIn at p
  split at p
  · rename_i z y
    split at p
    · rename_i ey
      subst ey
      obtain ⟨r, n1, n2⟩ := nsIn_r k z
      have e1 : y' = .ref (He.ga X.K y) := by have := ry.1; unfold Is at this; exact this
      rw [← n2] at p
      exact ⟨z, r, rx.1.str, e1, n1, p ρ _ H at_.refl is_bl⟩
    · exact p.elim
  · exact p.elim
theorem o_dNotIn {x : Str} {l : List (Str × D)} {mg : Str → Option Value} (k : DicOk X.w X.K mg x l) : Op2 (kx X W) W (dNotIn x l) (fun x' y' H Q => ∃ (z : Str) (r : Option Value), x' = .str z ∧ y' = .ref (He.ga X.K x) ∧ PySem.W.nsIn X.K (He.ga X.K x) z = some r ∧ Q (.bl (!r.isSome)) H) := by
  intro σ ρ h H d e x' y' Q at_ rx ry p
  unfold dNotIn at p
  split at p
  · rename_i z y
    split at p
    · rename_i ey
      subst ey
      obtain ⟨r, n1, n2⟩ := nsIn_r k z
      have e1 : y' = .ref (He.ga X.K y) := by have := ry.1; unfold Is at this; exact this
      rw [← n2] at p
      exact ⟨z, r, rx.1.str, e1, n1, p ρ _ H at_.refl is_bl⟩
    · exact p.elim
  · exact p.elim
/-- the module's dict that a name stands for -/
def dicOf (g : SC) : Expr → Option (Str × List (Str × D))
  | .Name x _ => if okName x = true ∧ isGl g x = true then (match g.T.dic x with
    | some l => some (x, l)
    | none => none) else none
  | _ => none
theorem dicOf_is (c : CxOk g X W) {e : Expr} {x : Str} {l : List (Str × D)} (h : dicOf g e = some (x, l)) : ∃ pos, e = .Name x pos ∧ DicOk X.w X.K X.mg x l ∧ DE X W e (cE (.glb x)) := by
  unfold dicOf at h
  split at h
  · rename_i y pos
    split at h
    · rename_i hc
      obtain ⟨ok, hg⟩ := hc
      obtain ⟨o1, o2, o3⟩ := okName_is ok
      split at h
      · rename_i l' q
        cases h
        have k := c.tab.dic _ _ q
        exact ⟨pos, rfl, k, de_const (pe_glob (v := .ref (He.ga X.K x)) (gl_is c hg) k.mg rfl o1) (fun ρ H => by unfold Is; rfl) rfl⟩
      · cases h
    · cases h
  · cases h
theorem dicOf_gl (c : CxOk g X W) {e : Expr} {x : Str} {l : List (Str × D)} (h : dicOf g e = some (x, l)) : Gl X x ∧ (x == ("__debug__" : Str)) = false := by
  unfold dicOf at h
  split at h
  · rename_i y pos
    split at h
    · rename_i hc
      obtain ⟨ok, hg⟩ := hc
      obtain ⟨o1, o2, o3⟩ := okName_is ok
      split at h
      · cases h
        exact ⟨gl_is c hg, o1⟩
      · cases h
    · cases h
  · cases h
end
end Dy

/-! The compiler of expressions, and that it is right. -/
namespace Dy
open PySem PySem.Spec PyProof.Rows L2
section
variable {X : Cx} {W : WJ} {g : SC}
/-! ### operators by name -/
def binF : Operator → Option (D → D → PH → Res D)
  | .Add => some addF
  | .Sub => some subF
  | .Mult => some mulF
  | .FloorDiv => some fdivF
  | .Mod => some modF
  | .Pow => some powF
  | .LShift => some shlF
  | .RShift => some shrF
  | _ => none
theorem binF_ok {op : Operator} {f : D → D → PH → Res D} (h : binF op = some f) : ∃ r, OpR X (binaryOp op) r ∧ Op2 (kx X W) W f r := by
  cases op <;> first | (cases h; done) | skip
  · cases h; exact ⟨_, op_add.or (op_add_str.or (op_catA.or op_cat)), o_add⟩
  · cases h; exact ⟨_, op_sub, o_sub⟩
  · cases h; exact ⟨_, op_mulW.or (op_repW.or (op_repS.or op_rep)), o_mul⟩
  · cases h; exact ⟨_, op_mod, o_mod⟩
  · cases h; exact ⟨_, op_pow, o_pow⟩
  · cases h; exact ⟨_, op_shlW, o_shl⟩
  · cases h; exact ⟨_, op_shr, o_shr⟩
  · cases h; exact ⟨_, op_fdivW, o_fdiv⟩
def cmpF : CmpOp → Option (D → D → PH → Res D)
  | .Eq => some eqF
  | .NotEq => some neF
  | .Lt => some ltF
  | .LtE => some leF
  | .Gt => some gtF
  | .GtE => some geF
  | .In => some inF
  | .NotIn => some notInF
  | .Is => some isF
  | .IsNot => some isNotF
theorem cmpF_ok (c : CxOk g X W) {op : CmpOp} {f : D → D → PH → Res D} (h : cmpF op = some f) : ∃ r, OpR X (compareOp op) r ∧ Op2 (kx X W) W f r := by
  have hu := c.units
  have hu1 : X.A.units + 64 < cLine := by omega
  have hu2 : X.A.units < cLine := by omega
  cases op
  · cases h; exact ⟨_, op_eq.or (op_eqD hu1), o_eq⟩
  · cases h; exact ⟨_, op_ne.or (op_neD hu1), o_ne⟩
  · cases h; exact ⟨_, op_lt.or (op_ltT hu2), o_lt⟩
  · cases h; exact ⟨_, op_le, o_intB⟩
  · cases h; exact ⟨_, op_gt, o_intB⟩
  · cases h; exact ⟨_, op_ge, o_intB⟩
  · cases h; exact ⟨_, op_isN, o_is⟩
  · cases h; exact ⟨_, op_notN, o_isNot⟩
  · cases h; exact ⟨_, op_in_str.or (op_in_seq.or (op_inD hu)), o_in⟩
  · cases h; exact ⟨_, op_notin_str.or (op_notIn_seq.or (op_notInD hu)), o_notIn⟩
/-! ### built-ins by name -/
inductive Bi where
  | len | abs | max2 | min2 | max1 | min1 | int | str | list | tuple | sum | all | any | sorted | isi | ord
def Bi.fn : Bi → Fn
  | .len => f1 lenF
  | .abs => f1 absF
  | .max2 => f2 max2F
  | .min2 => f2 min2F
  | .max1 => f1 max1F
  | .min1 => f1 min1F
  | .int => f1 intF
  | .str => f1 strF
  | .list => f1 listF
  | .tuple => f1 tupleF
  | .sum => f1 sumF
  | .all => f1 allF
  | .any => f1 anyF
  | .sorted => f1 sortedF
  | .isi => f2 isiF
  | .ord => f1 ordF
def biTab : List ((Str × Nat) × Bi) := [(("len", 1), .len), (("abs", 1), .abs), (("max", 2), .max2), (("min", 2), .min2), (("max", 1), .max1), (("min", 1), .min1), (("int", 1), .int), (("str", 1), .str), (("list", 1), .list), (("tuple", 1), .tuple),
  (("sum", 1), .sum), (("all", 1), .all), (("any", 1), .any), (("sorted", 1), .sorted), (("isinstance", 2), .isi), (("ord", 1), .ord)]
def biOf (x : Str) (n : Nat) : Option Bi := (biTab.find? fun p => decide (p.1 = (x, n))).map (·.2)
theorem biOf_mem {x : Str} {n : Nat} {b : Bi} (h : biOf x n = some b) : ((x, n), b) ∈ biTab := by
  unfold biOf at h
  cases e : biTab.find? fun p => decide (p.1 = (x, n)) with
  | none => rw [e] at h; cases h
  | some p =>
    rw [e] at h
    have h1 := List.mem_of_find?_eq_some e
    have h2 := List.find?_some e
    have h3 : p.1 = (x, n) := of_decide_eq_true h2
    have h4 : p.2 = b := by simpa using h
    rw [← h3, ← h4]; exact h1
/-- a call of a built-in is right -/
def CallOk (X : Cx) (W : WJ) (x : Str) (f : Fn) : Prop := ∀ (p pos : Pos) (e : Expr) (es : List Expr) (m : AM), DA X W (e :: es) m → noStars (e :: es) = true → DE X W (.Call (.Name x p) (e :: es) [] pos) (nA f m)
theorem callB_ok {x : Str} {id : String} {f : Fn} {r : List V → Hp → VK → Prop} (hc : CallR X (.builtin id) r) (hf : OpN (kx X W) W f r) (hg : Gl X x) (hm : X.mg x = none) (hv : bootBuiltins x = some (.builtin id)) (hn : x ≠ "__name__") (hdb : (x == ("__debug__" : Str)) = false) : CallOk X W x f :=
  fun p pos e es m ha hs => de_callB hc hf hg hm hv ha hn hdb (star_no (noStars_head hs).1 es _) (noStars_any (noStars_head hs).2 pos _)
theorem callT_ok {x : Str} {T : String} {f : Fn} {r : List V → Hp → VK → Prop} (hc : CallR X (.type T) r) (hf : OpN (kx X W) W f r) (hg : Gl X x) (hm : X.mg x = none) (hv : bootBuiltins x = some (.type T)) (hn : x ≠ "__name__") (hdb : (x == ("__debug__" : Str)) = false) : CallOk X W x f :=
  fun p pos e es m ha hs => de_callTy hc hf hg hm hv ha hn hdb (star_no (noStars_head hs).1 es _) (noStars_any (noStars_head hs).2 pos _)
/-- those that want a calm place -/
def Bi.calm : Bi → Bool
  | .max2 => true
  | .min2 => true
  | .max1 => true
  | .min1 => true
  | .sum => true
  | .all => true
  | .any => true
  | .list => true
  | _ => false
theorem bi_ok {x : Str} {n : Nat} {b : Bi} (hu : X.A.units + 65 < cLine) (h : biOf x n = some b) (hk : b.calm = true → X.calm = true) (hg : Gl X x) (hm : X.mg x = none) (hn : x ≠ "__name__") (hdb : (x == ("__debug__" : Str)) = false) : CallOk X W x b.fn := by
  have m := biOf_mem h
  unfold biTab at m
  simp only [List.mem_cons, List.not_mem_nil, or_false, Prod.mk.injEq] at m
  rcases m with ⟨⟨rfl, rfl⟩, rfl⟩ | ⟨⟨rfl, rfl⟩, rfl⟩ | ⟨⟨rfl, rfl⟩, rfl⟩ | ⟨⟨rfl, rfl⟩, rfl⟩ | ⟨⟨rfl, rfl⟩, rfl⟩ | ⟨⟨rfl, rfl⟩, rfl⟩ | ⟨⟨rfl, rfl⟩, rfl⟩ | ⟨⟨rfl, rfl⟩, rfl⟩ | ⟨⟨rfl, rfl⟩, rfl⟩ | ⟨⟨rfl, rfl⟩, rfl⟩ | ⟨⟨rfl, rfl⟩, rfl⟩ | ⟨⟨rfl, rfl⟩, rfl⟩ | ⟨⟨rfl, rfl⟩, rfl⟩ | ⟨⟨rfl, rfl⟩, rfl⟩ | ⟨⟨rfl, rfl⟩, rfl⟩ | ⟨⟨rfl, rfl⟩, rfl⟩
  · exact callB_ok (c_len (W := W)) (opn_1 o_len) hg hm (by decide +kernel) hn hdb
  · exact callB_ok c_abs (opn_1 o_abs) hg hm (by decide +kernel) hn hdb
  · exact callB_ok (c_max2 (hk rfl)) (opn_2 o_max2) hg hm (by decide +kernel) hn hdb
  · exact callB_ok (c_min2 (hk rfl)) (opn_2 o_min2) hg hm (by decide +kernel) hn hdb
  · exact callB_ok (c_max1 (W := W) (hk rfl) hu) (opn_1 o_max1) hg hm (by decide +kernel) hn hdb
  · exact callB_ok (c_min1 (W := W) (hk rfl) hu) (opn_1 o_min1) hg hm (by decide +kernel) hn hdb
  · exact callT_ok c_int (opn_1 o_int) hg hm (by decide +kernel) hn hdb
  · exact callT_ok c_str (opn_1 o_str) hg hm (by decide +kernel) hn hdb
  · exact callT_ok (c_list (W := W) (hk rfl)) (opn_1 o_list) hg hm (by decide +kernel) hn hdb
  · exact callT_ok (c_tuple (W := W)) (opn_1 o_tuple) hg hm (by decide +kernel) hn hdb
  · exact callB_ok (c_sum (W := W) (hk rfl)) (opn_1 o_sum) hg hm (by decide +kernel) hn hdb
  · exact callB_ok (c_all (W := W) (hk rfl)) (opn_1 o_all) hg hm (by decide +kernel) hn hdb
  · exact callB_ok (c_any (W := W) (hk rfl)) (opn_1 o_any) hg hm (by decide +kernel) hn hdb
  · exact callB_ok (c_sorted (W := W)) (opn_1 o_sorted) hg hm (by decide +kernel) hn hdb
  · exact callB_ok call_isi o_isi hg hm (by decide +kernel) hn hdb
  · exact callB_ok c_ord (opn_1 o_ord) hg hm (by decide +kernel) hn hdb
/-! ### methods by name -/
inductive Mt where
  | app | pop0 | join | split | index | dget
def mtTab : List ((Str × Nat) × Mt) := [(("append", 1), .app), (("pop", 0), .pop0), (("join", 1), .join), (("split", 1), .split), (("index", 2), .index), (("get", 2), .dget)]
def mtOf (x : Str) (n : Nat) : Option Mt := (mtTab.find? fun p => decide (p.1 = (x, n))).map (·.2)
theorem mtOf_mem {x : Str} {n : Nat} {b : Mt} (h : mtOf x n = some b) : ((x, n), b) ∈ mtTab := by
  unfold mtOf at h
  cases e : mtTab.find? fun p => decide (p.1 = (x, n)) with
  | none => rw [e] at h; cases h
  | some p =>
    rw [e] at h
    have h1 := List.mem_of_find?_eq_some e
    have h2 := List.find?_some e
    have h3 : p.1 = (x, n) := of_decide_eq_true h2
    have h4 : p.2 = b := by simpa using h
    rw [← h3, ← h4]; exact h1
def Mt.ty : Mt → String
  | .app => "list"
  | .pop0 => "list"
  | .join => "str"
  | .split => "str"
  | .index => "str"
  | .dget => "dict"
def Mt.f : Mt → D → List D → PH → Res D
  | .app => appF
  | .pop0 => popF
  | .join => joinF
  | .split => splitF
  | .index => indexF
  | .dget => dgetF
theorem mtr_of {X : Cx} {id : String} {r : V → List V → Hp → VK → Prop} (h : MtM X id r) : MtR X id r := fun pins s σ H x xs v us Q I rx rs q => h pins s σ H x xs v us Q I rx rs q
theorem mt_ok {x : Str} {n : Nat} {b : Mt} (hu : X.A.units + 1 < cLine) (h : mtOf x n = some b) {o : Expr} {es : List Expr} {apos cpos : Pos} {mo : EM} {ma : AM} (hn : es.length = n) (ho : DE X W o mo) (ha : DA X W es ma) (hz : n = 0 → ma = nilA) (bo : baseOk o = true) (ns : noStars es = true) (hl : (apos.endLine == cpos.line) = true) :
    DE X W (.Call (.Attribute o x apos) es [] cpos) (mtE b.ty b.f mo ma) := by
  have m := mtOf_mem h
  unfold mtTab at m
  simp only [List.mem_cons, List.not_mem_nil, or_false, Prod.mk.injEq] at m
  rcases m with ⟨⟨rfl, rfl⟩, rfl⟩ | ⟨⟨rfl, rfl⟩, rfl⟩ | ⟨⟨rfl, rfl⟩, rfl⟩ | ⟨⟨rfl, rfl⟩, rfl⟩ | ⟨⟨rfl, rfl⟩, rfl⟩ | ⟨⟨rfl, rfl⟩, rfl⟩
  · match es, hn with
    | [e], _ => exact de_mt PySem.F.plainAttrs_list PySem.F.slot_list_append PySem.F.type_list_append (mtr_of mt_append) o_app ho ha bo ns hl (by simp)
  · match es, hn with
    | [], _ =>
      rw [hz rfl]
      exact de_mt0 PySem.F.plainAttrs_list PySem.F.slot_list_pop PySem.F.type_list_pop (mtr_of mt_pop) o_pop ho bo hl
  · match es, hn with
    | [e], _ => exact de_mt PySem.F.plainAttrs_str PySem.F.slot_str_join PySem.F.type_str_join mt_join o_join ho ha bo ns hl (by simp)
  · match es, hn with
    | [e], _ => exact de_mt PySem.F.plainAttrs_str PySem.F.slot_str_split PySem.F.type_str_split mt_split o_split ho ha bo ns hl (by simp)
  · match es, hn with
    | [e, e'], _ => exact de_mt PySem.F.plainAttrs_str PySem.F.slot_str_index PySem.F.type_str_index mt_indexFrom o_index ho ha bo ns hl (by simp)
  · match es, hn with
    | [e, e'], _ => exact de_mt PySem.F.plainAttrs_dict PySem.F.slot_dict_get PySem.F.type_dict_get (mt_dget2 hu) o_dget ho ha bo ns hl (by simp)
/-! ### d.get(k, x), d a dict of the module -/
def dGt (l : List (Str × D)) (m : AM) : EM := fun e h => (m e h).bind fun ds h1 => match ds with
  | [.str z, d] => .ok ((l.lookup z).getD d) h1
  | _ => .stuck
theorem t_kget {K : KX} {w : World} {mg : Str → Option Value} {x : Str} {l : List (Str × D)} (k : DicOk w K mg x l) {m : AM} {σ : L2.St} {H : Hp} {Q : VK} (t : tE K W (dGt l m) σ H Q) :
    tA K W m σ H fun vs H1 => ∃ z v0 r, vs = [.str z, v0] ∧ PySem.W.nsIn K (He.ga K x) z = some r ∧ ∀ d0 u, RelV v0 u → d0 = r.getD u → ∃ v, RelV v d0 ∧ Q v H1 := by
  obtain ⟨ρ, env, h, rl, p⟩ := t
  refine tG_mono (PostG.bind (R := RL K) rl p) fun b H1 ⟨ρ1, h1, a1, x1, ra1, p1⟩ => ?_
  split at p1
  · rename_i z d
    obtain ⟨b1, b2, rfl, i1, i2⟩ := ra1.1.two
    have e1 : b1 = .str z := by unfold Is at i1; exact i1
    subst e1
    have lw : mrL [.str z, d] ≤ h1.cs.length := ra1.2
    unfold mrL mrL at lw
    cases q : l.lookup z with
    | none =>
      rw [q] at p1
      exact ⟨z, b2, none, rfl, k.not_ z q, fun d0 u ru e => ⟨b2, by rw [e]; exact ru, p1 ρ1 b2 H1 x1.at.refl ⟨i2, by show d.mr ≤ _; omega⟩⟩⟩
    | some dd =>
      rw [q] at p1
      obtain ⟨u1, v, n1, rv, is, m0⟩ := k.there z dd q
      exact ⟨z, b2, some u1, rfl, n1, fun d0 u ru e => ⟨v, by rw [e]; exact rv, p1 ρ1 v H1 x1.at.refl ⟨is _ ρ1 H1, by show dd.mr ≤ _; rw [m0]; exact Nat.zero_le _⟩⟩⟩
  · exact p1.elim
theorem de_kget {x : Str} {l : List (Str × D)} {e1 e2 : Expr} {p apos cpos : Pos} {ma : AM} (k : DicOk X.w X.K X.mg x l) (hg : Gl X x) (hdb : (x == ("__debug__" : Str)) = false) (ha : DA X W [e1, e2] ma) (ns : noStars [e1, e2] = true) (hl : (apos.endLine == cpos.line) = true) :
    DE X W (.Call (.Attribute (.Name x p) "get" apos) [e1, e2] [] cpos) (dGt l ma) := by
  refine ⟨fun pins s σ H Q I h => ?_⟩
  obtain ⟨es, n, kd⟩ := k.kd
  have ha' := t_kget (K := kx X W) (w := X.w) k h
  refine wpAny_Call_method_late (baseOk_is rfl _ _ _) (by rw [noStars_all ns cpos X.env]; rfl) hl rfl (thn ((pe_glob (pos := p) (v := .ref (He.ga X.K x)) hg k.mg rfl hdb).run pins s σ H (fun v H1 => v = .ref (He.ga X.K x) ∧ H1 = H) I ⟨rfl, rfl⟩) fun u s1 ⟨v, H1, I1, r1, ev, eH⟩ => ?_)
  subst ev
  subst eH
  obtain rfl : u = Value.ref (He.ga X.K x) := r1
  have hm := PySem.W.mapOf_K (prog := X.prog) (w := X.w) I1.kIn kd.at_ kd.lit
  refine ⟨"dict", "dict.get", PySem.F.plainAttrs_dict, PySem.F.slot_dict_get, PySem.F.type_dict_get, hm.typeIs, fun a ea => ?_, ?_⟩
  · cases ea
    exact ⟨_, I1.kIn _ _ kd.at_, rfl⟩
  have hA := ha.run cpos pins s1 σ H1 _ I1 ha'
  rw [star_no (noStars_head ns).1 [e2] X.env] at hA ⊢
  refine Calls.callWith_builtin (by show (false || (backTo cpos (starEach [e2] X.env)).any (·.1)) = false; rw [noStars_any (noStars_head ns).2 cpos X.env] <;> rfl) (Calls.evalArgs_plain ?_)
  refine thn hA fun us s2 ⟨vs, H2, I2, r2, z, v0, r, ev, nz, q⟩ => ?_
  subst ev
  obtain ⟨u1, u2, rfl, ru1, ru2⟩ := Vals.two r2
  obtain ⟨t, rfl⟩ := (show ∃ t, u1 = Value.str z t from ru1)
  have hm2 := PySem.W.mapOf_K (prog := X.prog) (w := X.w) I2.kIn kd.at_ kd.lit
  obtain ⟨v, rv, qv⟩ := q _ u2 ru2 rfl
  refine call_meetsIn PySem.F.slot_dict_get hm2.typeIs PySem.F.entry_dict_get (PySem.F.args_dict_get_3 _ _ _) (meets_dict_get_default (strKind X.prog X.w) (He.ga X.K x) (strKind_is X.prog X.w z t) kd.low u2) ⟨_, hm2, ?_⟩
  rw [PySem.W.find_K kd.at_ nz]
  exact ⟨v, H2, I2.tok _, rv, qv⟩
end
end Dy

/-! The compiler of expressions, and that it is right. -/
namespace Dy
open PySem PySem.Spec PyProof.Rows L2
/-- the block of a comprehension -/
def blkSC (g : SC) (scope : Scope) : SC := { g with sc := relS scope g.sc, top := false, hx := none, stm := false, fnc := fun x => scope.names.lookup x == some .cell }
def ownOf (g : SC) (scope : Scope) : List (Str × Nat) := scope.names.filterMap fun p => match p.2 with
  | .local => (ixOf g.N p.1).map fun i => (p.1, i)
  | .cell => (ixOf g.N p.1).map fun i => (p.1, i)
  | _ => none
/-- the names of targets -/
def nameSlots (g : SC) : List Expr → Option (List Nat)
  | [] => some []
  | .Name x _ :: r => (match sslot g x with
    | some i => (match nameSlots g r with
      | some l => some (i :: l)
      | none => none)
    | none => none)
  | _ :: _ => none
def cTgt (g : SC) : Expr → Option Tgt
  | .Name x _ => (match sslot g x with
    | some i => some (.one i)
    | none => none)
  | .Tuple ts _ _ => if g.calm = true then (match nameSlots g ts with
    | some l => some (.many l)
    | none => none) else none
  | _ => none
/-- the slot that an except suite holds is not stored to -/
def hxFree (g : SC) (t : Tgt) : Bool := match g.hx with
  | none => true
  | some (i, _) => !(t.slots.contains i)
def cA (f : Expr → EM) : List Expr → AM
  | [] => nilA
  | e :: es => if isStar e = true then stuckA else consA (f e) (cA f es)
def cAnds (f : Expr → TM) : List Expr → TM
  | [] => stuckT
  | [a] => f a
  | a :: b :: r => andT (f a) (cAnds f (b :: r))
def cOrs (f : Expr → TM) : List Expr → TM
  | [] => stuckT
  | [a] => f a
  | a :: b :: r => orT (f a) (cOrs f (b :: r))
def cAndE (f : Expr → EM) : List Expr → EM
  | [] => stuckE
  | [a] => f a
  | a :: b :: r => andE (f a) (cAndE f (b :: r))
def cOrE (f : Expr → EM) : List Expr → EM
  | [] => stuckE
  | [a] => f a
  | a :: b :: r => orE (f a) (cOrE f (b :: r))
def cO (f : Expr → EM) : Option Expr → OM
  | none => noO
  | some e => someO (f e)
def cConst : Const → EM
  | .int i => cE (.int i)
  | .bool b => cE (.bl b)
  | .str x => cE (.str x)
  | .none => cE .non
  | _ => stuckE
/-- xs[::-1] -/
def isRev : Option Expr → Option Expr → Option Expr → Bool
  | none, none, some (.UnaryOp .USub (.Constant (.int 1) _ _) _) => true
  | _, _, _ => false
def cSub0 (f : Expr → EM) (a : Expr) : Expr → EM
  | .Slice lo hi st _ => (match st with
    | none => slE (f a) (cO f lo) (cO f hi)
    | some _ => if isRev lo hi st = true then u1E revF (f a) else stuckE)
  | i => b2E ixF (f a) (f i)
def cSub (g : SC) (f : Expr → EM) (a i : Expr) : EM := match dicOf g a with
  | some (x, l) => if isSlice i = true then stuckE else b2E (dIx x l) (cE (.glb x)) (f i)
  | none => cSub0 f a i
/-- .. with a dict of the module -/
def cCmpD (g : SC) (f : Expr → EM) (a : Expr) : CmpOp → Expr → Option EM
  | .In, b => (match dicOf g b with
    | some (x, l) => some (b2E (dIn x l) (f a) (cE (.glb x)))
    | none => none)
  | .NotIn, b => (match dicOf g b with
    | some (x, l) => some (b2E (dNotIn x l) (f a) (cE (.glb x)))
    | none => none)
  | _, _ => none
/-- a comparison -/
def cCmp (g : SC) (f : Expr → EM) (a : Expr) : List CmpOp → List Expr → EM
  | [op], [b] => if behindInMarks op b = true then stuckE else (match cCmpD g f a op b with
    | some m => m
    | none => (match cmpF op with
      | some k => b2E k (f a) (f b)
      | none => stuckE))
  | [op, op', op2], [b, c, d] => if behindInMarks op2 d = true then stuckE else (match cmpF op with
    | some k => (match cmpF op' with
      | some l => (match cmpF op2 with
        | some m => ch3E k l m (f a) (f b) (f c) (f d)
        | none => stuckE)
      | none => stuckE)
    | none => stuckE)
  | [op, op'], [b, c] => if behindInMarks op' c = true then stuckE else (match cmpF op with
    | some k => (match cmpF op' with
      | some l => chE k l (f a) (f b) (f c)
      | none => stuckE)
    | none => stuckE)
  | _, _ => stuckE
/-- isinstance(e, y), e what the suite holds -/
def cIsE (g : SC) (args : List Expr) : Option EM := match g.hx with
  | none => none
  | some (i, c) => (match args with
    | [.Name n _, .Name y _] => if slot g n = some i ∧ okName n = true ∧ okName y = true ∧ isGl g y = true ∧ isGl g "isinstance" = true ∧ g.T.free "isinstance" = true then (match g.T.sub c y with
      | some b => some (cE (.bl b))
      | none => (match g.T.subT c y with
        | some b => some (cE (.bl b))
        | none => none)) else none
    | _ => none)
def cCall (g : SC) (f : Expr → EM) (x : Str) (args : List Expr) : EM := match (if x = "isinstance" then cIsE g args else none) with
  | some m => m
  | none => match slot g x with
    | some i => if okName x = true ∧ g.calm = true ∧ noStars args = true then callVF g.T.fn (vE i) (cA f args) else stuckE
    | none => if okName x = true ∧ isGl g x = true ∧ noStars args = true then (match g.T.fn x with
    | some (n, k) => if g.calm = true then (match args with
      | [] => if n = 0 then nA (callF 0 k) nilA else stuckE
      | _ :: _ => nA (callF n k) (cA f args)) else stuckE
    | none => if g.T.gcd x = true then (match args with
      | [] => stuckE
      | _ :: _ => nA (f2 gcdF) (cA f args)) else if g.T.free x = true then (match args with
      | [] => stuckE
      | _ :: _ => (match biOf x args.length with
        | some b => if b.calm = false ∨ g.calm = true then nA b.fn (cA f args) else stuckE
        | none => stuckE)) else stuckE) else stuckE
def cMeth (g : SC) (f : Expr → EM) (o : Expr) (m : Str) (apos cpos : Pos) (args : List Expr) : EM := match dicOf g o with
  | some (x, l) => if m = "get" ∧ noStars args = true ∧ (apos.endLine == cpos.line) = true then (match args with
    | [a, b] => dGt l (cA f [a, b])
    | _ => stuckE) else stuckE
  | none => if baseOk o = true ∧ noStars args = true ∧ (apos.endLine == cpos.line) = true then (match mtOf m args.length with
    | some b => mtE b.ty b.f (f o) (cA f args)
    | none => stuckE) else stuckE
def cIter (g : SC) (f : Expr → EM) (e : Expr) : IM := match e with
  | .Call (.Name x _) args [] _ => if okName x = true ∧ isGl g x = true ∧ g.T.free x = true ∧ g.T.fn x = none ∧ noStars args = true ∧ (x = "range" ∨ x = "reversed") then
      (if x = "range" then (match args with
        | [a] => rngE rangeF1 (cA f [a])
        | [a, b] => rngE rangeF2 (cA f [a, b])
        | [a, b, c] => rngE rangeF3 (cA f [a, b, c])
        | _ => stuckI) else (match args with
        | [a] => revE (f a)
        | _ => stuckI)) else srcE (f e)
  | .Set _ _ _ => stuckI
  | e => srcE (f e)
def cTs (t : Expr → TM) : List Expr → TM
  | [] => yesT
  | [c] => t c
  | _ => stuckT
def isSet : Expr → Bool
  | .Set _ _ _ => true
  | _ => false
/-- a comprehension: f, t work in its block -/
def cComp (g : SC) (fi : Expr → EM) (f : Expr → EM) (t : Expr → TM) (elt : Expr) (gs : List Comprehension) (scope : Scope) : EM := match gs with
  | [⟨tg, iter, ifs, as⟩] => if as = 0 ∧ g.calm = true ∧ isSet iter = false ∧ blkC g.N g.sc scope (ownOf g scope) = true then (match cTgt (blkSC g scope) tg with
    | some tt => if (tt.slots.all fun i => ((ownOf g scope).map (·.2)).contains i) = true then (if g.top = true then compXE (cIter g fi iter) ((ownOf g scope).map (·.2)) tt (cTs t ifs) (f elt) else compE (cIter g fi iter) ((ownOf g scope).map (·.2)) tt (cTs t ifs) (f elt)) else stuckE
    | none => stuckE) else stuckE
  | _ => stuckE
/-! ### f-strings -/
def nilJ (acc : Str) : EM := fun _ h => .ok (.str acc) h
def consJ (a : EM) (r : Str → EM) (acc : Str) : EM := fun e h => (a e h).bind fun x h1 => match x with
  | .str y => if (acc ++ y).length ≤ 16777216 then r (acc ++ y) e h1 else .stuck
  | _ => .stuck
def cJ (f : Expr → EM) : List Expr → Str → EM
  | [] => nilJ
  | e :: es => consJ (f e) (cJ f es)
section
variable {X : Cx} {W : WJ}
theorem pj_all {f : Expr → EM} (hf : ∀ e, DE X W e (f e)) : ∀ es : List Expr, PJ X es (es.map fun e => tE (kx X W) W (f e))
  | [] => .nil
  | e :: es => .cons (hf e) (pj_all hf es)
theorem t_js {K : KX} {f : Expr → EM} {σ : L2.St} {Q : VK} : ∀ (es : List Expr) (acc : Str) (H : Hp), tE K W (cJ f es acc) σ H Q → tJs (es.map fun e => tE K W (f e)) acc σ H (fun out H1 => Q (.str out) H1)
  | [], acc, H, ⟨ρ, env, h, r, p⟩ => p ρ (.str acc) H r.refl is_str
  | e :: es, acc, H, ⟨ρ, env, h, rl, p⟩ => by
    refine tG_mono (PostG.bind (R := RD K) rl p) fun b H1 ⟨ρ1, h1, a1, x1, ra1, p1⟩ => ?_
    split at p1
    · rename_i y
      split at p1
      · rename_i c
        exact ⟨y, ra1.1.str, by rw [sizeLine_eq]; exact c, t_js es (acc ++ y) H1 ⟨ρ1, env, h1, rl.ext x1, p1⟩⟩
      · exact p1.elim
    · exact p1.elim
theorem de_fmt {e : Expr} {pos : Pos} {m : EM} (he : DE X W e m) : DE X W (.FormattedValue e (-1) none pos) (u1E fmtF m) :=
  pe_imp (pe_fmt he) fun σ H Q t => t_u1 (o_fmt) t
theorem de_joined {a b : Expr} {es : List Expr} {pos : Pos} {f : Expr → EM} (hf : ∀ e, DE X W e (f e)) : DE X W (.JoinedStr (a :: b :: es) pos) (cJ f (a :: b :: es) Str.empty) :=
  pe_imp (pe_joined (pj_all hf (a :: b :: es))) fun σ H Q t => t_js (a :: b :: es) Str.empty H t
end
mutual
def cEx : Nat → SC → Expr → EM
  | 0, _, _ => stuckE
  | n + 1, g, .Constant c _ _ => cConst c
  | n + 1, g, .Name x _ => cName g x
  | n + 1, g, .BinOp a op b _ => (match binF op with
    | some f => b2E f (cEx n g a) (cEx n g b)
    | none => stuckE)
  | n + 1, g, .UnaryOp op a _ => (match op with
    | .USub => u1E negF (cEx n g a)
    | .Not => u1E notF (cEx n g a)
    | _ => stuckE)
  | n + 1, g, .BoolOp op es _ => (match op with
    | .And => cAndE (cEx n g) es
    | .Or => cOrE (cEx n g) es)
  | n + 1, g, .IfExp c a b _ => ifE (cTx n g c) (cEx n g a) (cEx n g b)
  | n + 1, g, .Compare a ops bs _ => cCmp g (cEx n g) a ops bs
  | n + 1, g, .Tuple es _ _ => nA tupF (cA (cEx n g) es)
  | n + 1, g, .List es _ => nA lstF (cA (cEx n g) es)
  | n + 1, g, .Subscript a i _ => cSub g (cEx n g) a i
  | n + 1, g, .Call fn args ks cpos => (match fn, ks with
    | .Name x _, [] => cCall g (cEx n g) x args
    | .Attribute o m apos, [] => cMeth g (cEx n g) o m apos cpos args
    | .Subscript a i p, [] => if g.calm = true ∧ noStars args = true then callVF g.T.fn (cEx n g (.Subscript a i p)) (cA (cEx n g) args) else stuckE
    | _, _ => stuckE)
  | n + 1, g, .Dict ks vs _ => (match dispC ks vs with
    | some l => if l.length ≤ 15 ∧ l ≠ [] then dictE l else stuckE
    | none => stuckE)
  | n + 1, g, .ListComp elt gs scope _ => cComp g (cEx n g) (cEx n (blkSC g scope)) (cTx n (blkSC g scope)) elt gs scope
  | n + 1, g, .FormattedValue e conv none _ => if conv = -1 then u1E fmtF (cEx n g e) else stuckE
  | n + 1, g, .JoinedStr es _ => (match es with
    | a :: b :: r => cJ (cEx n g) (a :: b :: r) Str.empty
    | _ => stuckE)
  | _ + 1, _, _ => stuckE
def cTx : Nat → SC → Expr → TM
  | 0, _, _ => stuckT
  | n + 1, g, .UnaryOp .Not a _ => notT (cTx n g a)
  | n + 1, g, .BoolOp op es _ => (match op with
    | .And => cAnds (cTx n g) es
    | .Or => cOrs (cTx n g) es)
  | n + 1, g, .Compare a ops bs _ => tbT (cCmp g (cEx n g) a ops bs)
  | n + 1, g, .IfExp _ _ _ _ => stuckT
  | n + 1, g, e => trT (cEx n g e)
end
section
variable {X : Cx} {W : WJ} {g : SC}
theorem s_cA {f : Expr → EM} (hf : ∀ e, DE X W e (f e)) : ∀ es : List Expr, DA X W es (cA f es)
  | [] => da_nil
  | e :: es => by
    unfold cA
    split
    · exact da_stuck
    · rename_i h
      exact da_cons (by cases q : isStar e <;> simp_all) (hf e) (s_cA hf es)
theorem s_ands {t : Expr → TM} (ht : ∀ e, DT X W e (t e)) (pos : Pos) : ∀ (a : Expr) (es : List Expr), DW X W (.BoolOp .And (a :: es) pos) (cAnds t (a :: es))
  | a, [] => dw_and1 (ht a)
  | a, b :: r => dw_and (ht a) (s_ands ht pos b r)
theorem s_ors {t : Expr → TM} (ht : ∀ e, DT X W e (t e)) (pos : Pos) : ∀ (a : Expr) (es : List Expr), DW X W (.BoolOp .Or (a :: es) pos) (cOrs t (a :: es))
  | a, [] => dw_or1 (ht a)
  | a, b :: r => dw_or (ht a) (s_ors ht pos b r)
theorem s_andE {t : Expr → EM} (ht : ∀ e, DE X W e (t e)) (pos : Pos) : ∀ (a : Expr) (es : List Expr), DE X W (.BoolOp .And (a :: es) pos) (cAndE t (a :: es))
  | a, [] => de_one (ht a)
  | a, b :: r => de_and (ht a) (s_andE ht pos b r)
theorem s_orE {t : Expr → EM} (ht : ∀ e, DE X W e (t e)) (pos : Pos) : ∀ (a : Expr) (es : List Expr), DE X W (.BoolOp .Or (a :: es) pos) (cOrE t (a :: es))
  | a, [] => de_one (ht a)
  | a, b :: r => de_or (ht a) (s_orE ht pos b r)
theorem s_cO {f : Expr → EM} (hf : ∀ e, DE X W e (f e)) : ∀ o : Option Expr, DO X W o (cO f o)
  | none => do_none
  | some e => do_some (hf e)
theorem s_const (c : Const) (k : Nat) (pos : Pos) : DE X W (.Constant c k pos) (cConst c) := by
  cases c with
  | int i => exact de_const pe_int (fun ρ H => by unfold Is; rfl) rfl
  | bool i => exact de_const pe_bl (fun ρ H => by unfold Is; rfl) rfl
  | str i => exact de_const pe_str (fun ρ H => by unfold Is; rfl) rfl
  | none => exact de_const pe_non (fun ρ H => by unfold Is; rfl) rfl
  | _ => exact de_stuck
theorem bfalse {b : Bool} (h : ¬ b = true) : b = false := by cases b <;> simp_all
theorem s_cmpD {f : Expr → EM} (c : CxOk g X W) (hf : ∀ e, DE X W e (f e)) {a b : Expr} {op : CmpOp} {pos : Pos} {m : EM} (hm : behindInMarks op b = false) (h : cCmpD g f a op b = some m) : DE X W (.Compare a [op] [b] pos) m ∧ DT X W (.Compare a [op] [b] pos) (tbT m) := by
  unfold cCmpD at h
  split at h
  · split at h
    · rename_i x l q
      cases h
      obtain ⟨p, e, k, de⟩ := dicOf_is c q
      obtain ⟨es, n, kd⟩ := k.kd
      exact ⟨de_cmp (op_in_kd kd) (o_dIn k) (hf a) de hm, dt_cmp (op_in_kd kd) (o_dIn k) (hf a) de hm⟩
    · cases h
  · split at h
    · rename_i x l q
      cases h
      obtain ⟨p, e, k, de⟩ := dicOf_is c q
      obtain ⟨es, n, kd⟩ := k.kd
      exact ⟨de_cmp (op_notIn_kd kd) (o_dNotIn k) (hf a) de hm, dt_cmp (op_notIn_kd kd) (o_dNotIn k) (hf a) de hm⟩
    · cases h
  · cases h
theorem s_cmp {f : Expr → EM} (c : CxOk g X W) (hf : ∀ e, DE X W e (f e)) (a : Expr) (ops : List CmpOp) (bs : List Expr) (pos : Pos) : DE X W (.Compare a ops bs pos) (cCmp g f a ops bs) := by
  unfold cCmp
  split
  · split
    · exact de_stuck
    · rename_i h
      split
      · rename_i m e
        exact (s_cmpD c hf (bfalse h) e).1
      · split
        · rename_i k e
          obtain ⟨r, h1, h2⟩ := cmpF_ok c e
          exact de_cmp h1 h2 (hf a) (hf _) (bfalse h)
        · exact de_stuck
  · split
    · exact de_stuck
    · rename_i h
      split
      · rename_i k e
        split
        · rename_i l e'
          split
          · rename_i m e2
            obtain ⟨r, h1, h2⟩ := cmpF_ok c e
            obtain ⟨r', h3, h4⟩ := cmpF_ok c e'
            obtain ⟨r2, h5, h6⟩ := cmpF_ok c e2
            exact de_ch3 h1 h3 h5 h2 h4 h6 (hf a) (hf _) (hf _) (hf _) (bfalse h)
          · exact de_stuck
        · exact de_stuck
      · exact de_stuck
  · split
    · exact de_stuck
    · rename_i h
      split
      · rename_i k e
        split
        · rename_i l e'
          obtain ⟨r, h1, h2⟩ := cmpF_ok c e
          obtain ⟨r', h3, h4⟩ := cmpF_ok c e'
          exact de_ch h1 h3 h2 h4 (hf a) (hf _) (hf _) (bfalse h)
        · exact de_stuck
      · exact de_stuck
  · exact de_stuck
theorem t_stuckT {e : Expr} : DT X W e (tbT stuckE) := ⟨fun _ _ _ _ _ _ ⟨_, _, _, _, p⟩ => False.elim p⟩
theorem s_cmpT {f : Expr → EM} (c : CxOk g X W) (hf : ∀ e, DE X W e (f e)) (a : Expr) (ops : List CmpOp) (bs : List Expr) (pos : Pos) : DT X W (.Compare a ops bs pos) (tbT (cCmp g f a ops bs)) := by
  unfold cCmp
  split
  · split
    · exact t_stuckT
    · rename_i h
      split
      · rename_i m e
        exact (s_cmpD c hf (bfalse h) e).2
      · split
        · rename_i k e
          obtain ⟨r, h1, h2⟩ := cmpF_ok c e
          exact dt_cmp h1 h2 (hf a) (hf _) (bfalse h)
        · exact t_stuckT
  · split
    · exact t_stuckT
    · rename_i h
      split
      · rename_i k e
        split
        · rename_i l e'
          split
          · rename_i m e2
            obtain ⟨r, h1, h2⟩ := cmpF_ok c e
            obtain ⟨r', h3, h4⟩ := cmpF_ok c e'
            obtain ⟨r2, h5, h6⟩ := cmpF_ok c e2
            exact dt_ch3 h1 h3 h5 h2 h4 h6 (hf a) (hf _) (hf _) (hf _) (bfalse h)
          · exact t_stuckT
        · exact t_stuckT
      · exact t_stuckT
  · split
    · exact t_stuckT
    · rename_i h
      split
      · rename_i k e
        split
        · rename_i l e'
          obtain ⟨r, h1, h2⟩ := cmpF_ok c e
          obtain ⟨r', h3, h4⟩ := cmpF_ok c e'
          exact dt_ch h1 h3 h2 h4 (hf a) (hf _) (hf _) (bfalse h)
        · exact t_stuckT
      · exact t_stuckT
  · exact t_stuckT
theorem s_sub0 {f : Expr → EM} (hf : ∀ e, DE X W e (f e)) (a i : Expr) (pos : Pos) : DE X W (.Subscript a i pos) (cSub0 f a i) := by
  cases i with
  | Slice lo hi st p =>
    cases st with
    | none => exact de_sl (hf a) (s_cO hf lo) (s_cO hf hi)
    | some e =>
      show DE X W _ (if isRev lo hi (some e) = true then u1E revF (f a) else stuckE)
      split
      · rename_i h
        unfold isRev at h
        split at h
        · rename_i e'
          cases e'
          exact de_rev (hf a)
        · cases h
      · exact de_stuck
  | _ => exact de_ix rfl (hf a) (hf _)
theorem s_sub {f : Expr → EM} (c : CxOk g X W) (hf : ∀ e, DE X W e (f e)) (a i : Expr) (pos : Pos) : DE X W (.Subscript a i pos) (cSub g f a i) := by
  unfold cSub
  split
  · rename_i x l q
    obtain ⟨p, e, k, de⟩ := dicOf_is c q
    split
    · exact de_stuck
    · rename_i h
      exact pe_imp (pe_ix ix_kdict de (hf i) (plainIx_of (bfalse h))) fun σ H Q t => t_b2 (o_dIx k) t
  · exact s_sub0 hf a i pos
theorem s_callV {f : Expr → EM} (c : CxOk g X W) (hc : g.calm = true) {fn : Expr} {mo : EM} (ho : DE X W fn mo) (hf : ∀ e, DE X W e (f e)) (args : List Expr) {pos : Pos} (ns : noStars args = true) (hca : CallAs X fn args pos) : DE X W (.Call fn args [] pos) (callVF g.T.fn mo (cA f args)) := by
  obtain ⟨x1, x2, x3, x4⟩ := c.calm hc
  obtain ⟨w, hx⟩ := W
  have x2 : hx = none := x2
  subst x2
  cases args with
  | nil => exact de_callV0 c.tab.fn x4 c.tk ho hca
  | cons e es => exact de_callV c.tab.fn x4 c.tk ho (s_cA hf (e :: es)) ns hca
theorem s_call {f : Expr → EM} (c : CxOk g X W) (hf : ∀ e, DE X W e (f e)) (x : Str) (args : List Expr) (p pos : Pos) : DE X W (.Call (.Name x p) args [] pos) (cCall g f x args) := by
  unfold cCall
  split
  · rename_i m e
    split at e
    · rename_i ex
      subst ex
      unfold cIsE at e
      split at e
      · cases e
      · rename_i i cn hh
        split at e
        · rename_i n np y yp
          split at e
          · rename_i cc
            obtain ⟨c1, c2, c3, c4, c5, c6⟩ := cc
            split at e
            · rename_i b sb
              cases e
              obtain ⟨a, oe, pn, X0, w1, hz, hv, ex⟩ := c.hx i cn hh
              obtain ⟨h1, h2⟩ := slot_is c c1
              obtain ⟨o1, o2, o3⟩ := okName_is c2
              obtain ⟨q1, q2, q3⟩ := okName_is c3
              obtain ⟨k1, k2, k3, k4⟩ := c.tab.sub cn y b sb
              have hc : CallR X (.builtin "isinstance") (rIsE X.K (He.ga X.K cn) a) := by
                subst ex
                exact call_isE k4 hz hv
              have pe := pe_callB (p := p) (pos := pos) hc (gl_is c c5) (c.tab.free _ c6) (by decide +kernel) (pa_cons (pe_var (pos := np) h1 h2 o1 o2) (pa_cons (pe_glob (pos := yp) (v := .ref (He.ga X.K y)) (gl_is c c4) k1 rfl q1) pa_nil (by rfl)) (by rfl)) (by decide) (by decide) (by rfl) (by rfl)
              refine pe_imp pe fun σ H Q ⟨ρ, env, h, rl, p⟩ => ?_
              have inv := rl.eis.inv
              have e1 : (kx X W).hx = some (i, a) := w1
              have e2 : σ[i]? = some (some (.ref a)) := by
                unfold KX.J at inv
                rw [e1] at inv
                exact inv
              refine ⟨_, e2, .ref (He.ga X.K y), .ref (He.ga X.K y), b, rfl, fun u hu => hu, k3, ?_⟩
              exact p ρ (.bl b) H rl.refl is_bl
            · split at e
              · rename_i b sb
                cases e
                obtain ⟨a, oe, pn, X0, w1, hz, hv, ex⟩ := c.hx i cn hh
                obtain ⟨h1, h2⟩ := slot_is c c1
                obtain ⟨o1, o2, o3⟩ := okName_is c2
                obtain ⟨q1, q2, q3⟩ := okName_is c3
                obtain ⟨k1, rfl, k3, k4⟩ := c.tab.subT cn y b sb
                have hc : CallR X (.builtin "isinstance") (rIsE X.K (He.ga X.K cn) a) := by
                  subst ex
                  exact call_isE k4 hz hv
                have pe := pe_callB (p := p) (pos := pos) hc (gl_is c c5) (c.tab.free _ c6) (by decide +kernel) (pa_cons (pe_var (pos := np) h1 h2 o1 o2) (pa_cons (pe_bltn (pos := yp) (v := .ty "ValueError") (gl_is c c4) k1 (by decide +kernel) rfl q3 q1) pa_nil (by rfl)) (by rfl)) (by decide) (by decide) (by rfl) (by rfl)
                refine pe_imp pe fun σ H Q ⟨ρ, env, h, rl, p⟩ => ?_
                have inv := rl.eis.inv
                have e1 : (kx X W).hx = some (i, a) := w1
                have e2 : σ[i]? = some (some (.ref a)) := by
                  unfold KX.J at inv
                  rw [e1] at inv
                  exact inv
                refine ⟨_, e2, .ty "ValueError", .type "ValueError", b, rfl, fun u hu => hu, k3, ?_⟩
                exact p ρ (.bl b) H rl.refl is_bl
              · cases e
          · cases e
        · cases e
    · cases e
  · split
    · rename_i i hi
      split
      · rename_i cc
        obtain ⟨c1, c2, c3⟩ := cc
        obtain ⟨h1, h2⟩ := slot_is c hi
        obtain ⟨o1, o2, o3⟩ := okName_is c1
        exact s_callV c c2 (de_var (pe_var (pos := p) h1 h2 o1 o2)) hf args c3 fun s Q h => wpAny_Call_Name_kw h
      · exact de_stuck
    · split
      · rename_i cc
        obtain ⟨c1, c2, c3⟩ := cc
        obtain ⟨o1, o2, o3⟩ := okName_is c1
        split
        · rename_i n k e
          split
          · rename_i hc
            obtain ⟨x1, x2, x3, x4⟩ := c.calm hc
            obtain ⟨w, hx⟩ := W
            have x2 : hx = none := x2
            subst x2
            obtain ⟨a, fd, ps, t1, t2, t3, t4, t5⟩ := c.tab.fn x n k e
            cases args with
            | nil =>
              dsimp only
              split
              · rename_i hn
                subst hn
                exact de_call0 t4 x4 (gl_is c c2) t1 t2 t3 c.tk o1
              · exact de_stuck
            | cons e1 es => exact de_call t4 x4 (gl_is c c2) t1 t2 t3 c.tk (s_cA hf (e1 :: es)) o1 c3
          · exact de_stuck
        · split
          · rename_i hg
            cases args with
            | nil => exact de_stuck
            | cons e1 es => exact pe_imp (pe_callBfun cr_gcd (gl_is c c2) (c.tab.gcd x hg) (s_cA hf (e1 :: es)) o1 (star_no (noStars_head c3).1 es _) (noStars_any (noStars_head c3).2 pos _)) fun σ H Q t => t_nA o_gcd t
          split
          · rename_i hfree
            cases args with
            | nil => exact de_stuck
            | cons e1 es =>
              dsimp only
              split
              · rename_i b e
                split
                · rename_i hb
                  refine bi_ok c.units e (fun hk => ?_) (gl_is c c2) (c.tab.free x hfree) o3 o1 p pos e1 es _ (s_cA hf (e1 :: es)) c3
                  rcases hb with hb | hb
                  · rw [hb] at hk; cases hk
                  · exact (c.calm hb).1
                · exact de_stuck
              · exact de_stuck
          · exact de_stuck
      · exact de_stuck
theorem s_meth {f : Expr → EM} (c : CxOk g X W) (hf : ∀ e, DE X W e (f e)) (o : Expr) (m : Str) (apos cpos : Pos) (args : List Expr) : DE X W (.Call (.Attribute o m apos) args [] cpos) (cMeth g f o m apos cpos args) := by
  unfold cMeth
  split
  · rename_i x l q
    split
    · rename_i cc
      split
      · rename_i a b
        obtain ⟨p, e, k, de⟩ := dicOf_is c q
        subst e
        obtain ⟨c1, c2, c3⟩ := cc
        subst c1
        obtain ⟨h1, h2⟩ := dicOf_gl c q
        exact de_kget k h1 h2 (s_cA hf [a, b]) c2 c3
      · exact de_stuck
    · exact de_stuck
  split
  · rename_i cc
    split
    · rename_i b e
      refine mt_ok (by have := c.units; omega) e rfl (hf o) (s_cA hf args) (fun hz => ?_) cc.1 cc.2.1 cc.2.2
      have : args = [] := List.eq_nil_of_length_eq_zero hz
      subst this
      rfl
    · exact de_stuck
  · exact de_stuck
theorem s_iter {f : Expr → EM} {tg : Expr} (c : CxOk g X W) (hf : ∀ e, DE X W e (f e)) (e : Expr) : DI X W tg e (cIter g f e) := by
  unfold cIter
  split
  · rename_i x p args pos
    split
    · rename_i cc
      obtain ⟨c1, c2, c3, c4, c5, c6⟩ := cc
      split
      · rename_i ex
        subst ex
        split
        · exact di_range1 (gl_is c c2) (c.tab.free _ c3) (s_cA hf _) c5
        · exact di_range2 (gl_is c c2) (c.tab.free _ c3) (s_cA hf _) c5
        · exact di_range3 (gl_is c c2) (c.tab.free _ c3) (s_cA hf _) c5
        · exact di_stuck
      · rename_i ex
        have ex2 : x = "reversed" := c6.resolve_left ex
        subst ex2
        split
        · exact di_rev (gl_is c c2) (c.tab.free _ c3) (hf _) c5
        · exact di_stuck
    · exact di_expr (hf _)
  · exact di_stuck
  · exact di_expr (hf _)
theorem iter_plain {e : Expr} (h : isSet e = false) (env : PySem.Env) (x : Value) : foldedSetIterable e env x = pure x := by
  cases e <;> first | rfl | cases h
/-! ### targets -/
theorem s_names (c : CxOk g X W) : ∀ {ts : List Expr} {l : List Nat}, nameSlots g ts = some l → PGs X ts (gNames l) ∧ (∀ e ∈ ts, ∃ x p, e = Expr.Name x p) ∧ ts.length = l.length
  | [], l, h => by
    cases h
    exact ⟨pgs_nil, (fun e he => nomatch he), rfl⟩
  | e :: r, l, h => by
    unfold nameSlots at h
    split at h
    · rename_i q
      cases q
    · rename_i x p rest ee
      obtain ⟨rfl, rfl⟩ : e = .Name x p ∧ r = rest := by injection ee with e1 e2; exact ⟨e1, e2⟩
      split at h
      · rename_i i hi
        split at h
        · rename_i l' hl
          cases h
          obtain ⟨h1, h2, h3⟩ := s_names c hl
          obtain ⟨n1, n2, n3⟩ := sslot_is c hi
          refine ⟨pgs_cons (pg_name (by rw [c.hN]; exact c.nd) n1 n2 n3) h1 (by rfl), fun e he => ?_, by rw [List.length_cons, List.length_cons, h3]⟩
          rcases List.mem_cons.mp he with z | z
          · exact ⟨x, p, z⟩
          · exact h2 e z
        · cases h
      · cases h
    · cases h
theorem hxFree_is (c : CxOk g X W) {t : Tgt} (h : hxFree g t = true) : ∀ i ∈ t.slots, (kx X W).can i := by
  intro i hi
  unfold hxFree at h
  cases e : g.hx with
  | none =>
    have := c.hx0 e
    show (match W.hx with | none => True | some (j, _) => i ≠ j)
    rw [this]; trivial
  | some p =>
    obtain ⟨j, cn⟩ := p
    rw [e] at h
    obtain ⟨a, oe, pn, X0, w1, _⟩ := c.hx j cn e
    show (match W.hx with | none => True | some (j, _) => i ≠ j)
    rw [w1]
    intro z
    have h' : (!(t.slots.contains j)) = true := h
    have : t.slots.contains j = true := by rw [← z]; simpa using hi
    rw [this] at h'; cases h'
theorem s_tgt (c : CxOk g X W) {tg : Expr} {t : Tgt} (h : cTgt g tg = some t) (hf : hxFree g t = true) : ∃ gg, PG X tg gg ∧ TgOk (kx X W) t gg := by
  have can := hxFree_is c hf
  unfold cTgt at h
  split at h
  · split at h
    · rename_i i hi
      cases h
      obtain ⟨n1, n2, n3⟩ := sslot_is c hi
      exact ⟨_, pg_name (by rw [c.hN]; exact c.nd) n1 n2 n3, tg_one i (can i (by simp [Tgt.slots]))⟩
    · cases h
  · rename_i ts k pos
    split at h
    · rename_i hc
      split at h
      · rename_i l hl
        cases h
        obtain ⟨h1, h2, h3⟩ := s_names c hl
        obtain ⟨a1, a2⟩ := assignEach_len ts X.env h2
        have cal := (c.calm hc).1
        refine ⟨_, pg_or (pg_tup (n := l.length) cal h1 (by rw [a1, h3]) a2) (pg_lst (n := l.length) cal h1 (by rw [a1, h3]) a2), tg_many l can⟩
      · cases h
    · cases h
  · cases h
theorem hxFree_calm (c : CxOk g X W) (hc : g.calm = true) (t : Tgt) : hxFree g t = true := by
  unfold hxFree
  rw [(c.calm hc).2.2.1]
theorem blk_okX (c : CxOk g X W) (hc : g.calm = true) {scope : Scope} (hb : blkC g.N g.sc scope (ownOf g scope) = true) (s : Shared) (H : Hp) (C : Addr) (cl : List (Str × Addr)) (fp : List Addr) (E : Value → Shared → Prop) {w' : WX} (tk : Takes (BlkCxX X scope s H C cl fp E) w') : CxOk (blkSC g scope) (BlkCxX X scope s H C cl fp E) ⟨w', none⟩ where
  hN := c.hN
  nd := c.nd
  sc := by
    show relabel scope X.env = relS scope g.sc
    rw [← c.sc]; rfl
  calm := fun _ => ⟨(c.calm hc).1, rfl, rfl, (c.calm hc).2.2.2⟩
  tk := tk
  po := fun h => nomatch h
  top := fun h => nomatch h
  fn := fun x h => h
  tab := c.tab
  units := c.units
  kind := (blkOk_by hb).kind
  hx := fun i cn h => nomatch h
  hx0 := fun _ => rfl
theorem blk_ok (c : CxOk g X W) (hc : g.calm = true) {scope : Scope} (hb : blkC g.N g.sc scope (ownOf g scope) = true) (s : Shared) (H : Hp) (C : Addr) (cl : List (Str × Addr)) (fp : List Addr) : CxOk (blkSC g scope) (BlkCx X scope s H C cl fp) W0 := blk_okX c hc hb s H C cl fp (fun _ _ => False) takes0
theorem s_cTs {t : Expr → TM} (ht : ∀ e, DT X W e (t e)) (es : List Expr) : DTs X W es (cTs t es) := by
  unfold cTs
  split
  · exact dts_nil
  · exact dts_one (ht _)
  · exact ⟨fun _ _ _ _ _ _ ⟨_, _, _, _, p⟩ => False.elim p⟩
/-- the parts of a comprehension's rule -/
theorem comp_parts {fi f : Expr → EM} {t : Expr → TM} (c : CxOk g X W) (hfi : ∀ e, DE X W e (fi e)) {scope : Scope} (hf : ∀ (g' : SC) (X' : Cx) (W' : WJ), g' = blkSC g scope → CxOk g' X' W' → ∀ e, DE X' W' e (f e)) (ht : ∀ (g' : SC) (X' : Cx) (W' : WJ), g' = blkSC g scope → CxOk g' X' W' → ∀ e, DT X' W' e (t e))
    (elt : Expr) (gs : List Comprehension) (pos : Pos) : DE X W (.ListComp elt gs scope pos) (cComp g fi f t elt gs scope) ∧
    (∀ (i : Nat) (y : Str) (py spos : Pos), X.N[i]? = some y → X.env.scope.names.lookup y = some .local → swapsWith (.ListComp elt gs scope pos) (some (.Name y py)) spos.line X.env = pure true → DS X W (.Assign [.Name y py] (.ListComp elt gs scope pos) spos) (asgS (cComp g fi f t elt gs scope) (.one i))) := by
  unfold cComp
  have stk : ∀ (i : Nat) (y : Str) (py spos : Pos) (e : Expr), DS X W (.Assign [.Name y py] e spos) (asgS stuckE (.one i)) := fun i y py spos e => ⟨fun _ _ _ _ _ _ ⟨_, _, _, _, p⟩ => False.elim p⟩
  split
  · rename_i tg iter ifs as
    split
    · rename_i cc
      obtain ⟨c1, c2, c3, c4⟩ := cc
      subst c1
      split
      · rename_i tt et
        split
        · rename_i hs
          obtain ⟨x1, x2, x3, x4⟩ := c.calm c2
          have bo := blkOk_by c4
          rw [← c.hN, ← c.sc] at bo
          have ho : ∀ i ∈ tt.slots, i ∈ (ownOf g scope).map (·.2) := fun i hi => by simpa using List.all_eq_true.mp hs i hi
          obtain ⟨w, hx⟩ := W
          have x2 : hx = none := x2
          subst x2
          have iter_ok := fun (tg : Expr) => s_iter (tg := tg) c hfi iter
          have nd : X.N.Nodup := by rw [c.hN]; exact c.nd
          -- the target is the same in every block
          have tgs : ∃ gg, (∀ s H C cl fp E, PG (BlkCxX X scope s H C cl fp E) tg gg) ∧ TgOk ⟨X.K, none⟩ tt gg := by
            have fr : hxFree (blkSC g scope) tt = true := rfl
            unfold cTgt at et
            split at et
            · split at et
              · rename_i x px i hi
                cases et
                refine ⟨gName i, fun s H C cl fp E => ?_, tg_one i trivial⟩
                have cb := blk_okX c c2 c4 s H C cl fp E takes0
                obtain ⟨n1, n2, n3⟩ := sslot_is cb hi
                exact pg_name nd n1 n2 n3
              · cases et
            · rename_i ts k tpos
              split at et
              · split at et
                · rename_i l hl
                  cases et
                  refine ⟨gMany ⟨X.K, none⟩ l.length (gNames l), fun s H C cl fp E => ?_, tg_many (K := ⟨X.K, none⟩) l (fun i hi => trivial)⟩
                  have cb := blk_okX c c2 c4 s H C cl fp E takes0
                  obtain ⟨h1, h2, h3⟩ := s_names cb hl
                  obtain ⟨a1, a2⟩ := assignEach_len ts (BlkCxX X scope s H C cl fp E).env h2
                  exact pg_or (pg_tup (n := l.length) x1 h1 (by rw [a1, h3]) a2) (pg_lst (n := l.length) x1 h1 (by rw [a1, h3]) a2)
                · cases et
              · cases et
            · cases et
          obtain ⟨gg, tg1, tg2⟩ := tgs
          split
          · rename_i htop
            obtain ⟨t1, t2⟩ := c.top htop
            refine ⟨?_, fun i y py spos hy hyl hsw => ?_⟩
            · exact de_compX c.tk t1 t2 x1 nd (iter_ok tg) bo tg2 ho tg1 (fun σ s H C cl fp E tw => s_cTs (ht _ _ _ rfl (blk_okX c c2 c4 s H C cl fp E tw)) ifs) (fun σ s H C cl fp E tw => hf _ _ _ rfl (blk_okX c c2 c4 s H C cl fp E tw) elt) (iter_plain c3 _)
            · exact ds_setcX c.tk t1 t2 x1 nd hy hyl hsw (iter_ok tg) bo tg2 ho tg1 (fun σ s H C cl fp E tw => s_cTs (ht _ _ _ rfl (blk_okX c c2 c4 s H C cl fp E tw)) ifs) (fun σ s H C cl fp E tw => hf _ _ _ rfl (blk_okX c c2 c4 s H C cl fp E tw) elt) (iter_plain c3 _)
          refine ⟨?_, fun i y py spos hy hyl hsw => ?_⟩
          · exact de_comp x1 nd (iter_ok tg) bo tg2 ho (fun s H C cl fp => tg1 s H C cl fp _) (fun s H C cl fp => s_cTs (ht _ _ _ rfl (blk_ok c c2 c4 s H C cl fp)) ifs) (fun s H C cl fp => hf _ _ _ rfl (blk_ok c c2 c4 s H C cl fp) elt) (iter_plain c3 _)
          · exact ds_setc x1 nd hy hyl hsw (iter_ok tg) bo tg2 ho (fun s H C cl fp => tg1 s H C cl fp _) (fun s H C cl fp => s_cTs (ht _ _ _ rfl (blk_ok c c2 c4 s H C cl fp)) ifs) (fun s H C cl fp => hf _ _ _ rfl (blk_ok c c2 c4 s H C cl fp) elt) (iter_plain c3 _)
        · exact ⟨de_stuck, fun i y py spos _ _ _ => stk i y py spos _⟩
      · exact ⟨de_stuck, fun i y py spos _ _ _ => stk i y py spos _⟩
    · exact ⟨de_stuck, fun i y py spos _ _ _ => stk i y py spos _⟩
  · exact ⟨de_stuck, fun i y py spos _ _ _ => stk i y py spos _⟩
/-- THE COMPILER IS RIGHT -/
theorem s_all : ∀ n : Nat, (∀ (g : SC) (X : Cx) (W : WJ), CxOk g X W → ∀ e, DE X W e (cEx n g e)) ∧ (∀ (g : SC) (X : Cx) (W : WJ), CxOk g X W → ∀ e, DT X W e (cTx n g e))
  | 0 => ⟨fun g X W c e => by unfold cEx; exact de_stuck, fun g X W c e => by unfold cTx; exact dt_stuck⟩
  | n + 1 => by
    obtain ⟨ie, it⟩ := s_all n
    have he : ∀ (g : SC) (X : Cx) (W : WJ), CxOk g X W → ∀ e, DE X W e (cEx (n + 1) g e) := fun g X W c e => by
      cases e with
      | Constant k j pos => exact s_const k j pos
      | Name x pos => exact s_name c x pos
      | BinOp a op b pos =>
        show DE X W _ (match binF op with | some f => b2E f (cEx n g a) (cEx n g b) | none => stuckE)
        split
        · rename_i f e
          obtain ⟨r, h1, h2⟩ := binF_ok e
          exact de_bin h1 h2 (ie g X W c a) (ie g X W c b)
        · exact de_stuck
      | UnaryOp op a pos =>
        cases op with
        | USub => exact de_un un_neg o_neg (ie g X W c a)
        | Not => exact de_not (ie g X W c a)
        | _ => exact de_stuck
      | BoolOp op es pos =>
        cases op with
        | And =>
          cases es with
          | nil => exact de_stuck
          | cons a r => exact s_andE (ie g X W c) pos a r
        | Or =>
          cases es with
          | nil => exact de_stuck
          | cons a r => exact s_orE (ie g X W c) pos a r
      | IfExp t a b pos => exact de_if (it g X W c t) (ie g X W c a) (ie g X W c b)
      | Compare a ops bs pos => exact s_cmp c (ie g X W c) a ops bs pos
      | Tuple es k pos => exact de_tup (s_cA (ie g X W c) es)
      | List es pos => exact de_lst (s_cA (ie g X W c) es)
      | Dict ks vs pos =>
        show DE X W _ (match dispC ks vs with
          | some l => if l.length ≤ 15 ∧ l ≠ [] then dictE l else stuckE
          | none => stuckE)
        split
        · rename_i l e
          split
          · rename_i hl
            exact de_disp e hl.1 hl.2
          · exact de_stuck
        · exact de_stuck
      | Subscript a i pos => exact s_sub c (ie g X W c) a i pos
      | Call fn args ks cpos =>
        cases ks with
        | cons _ _ => cases fn <;> exact de_stuck
        | nil =>
          cases fn with
          | Name x p => exact s_call c (ie g X W c) x args p cpos
          | Attribute o m apos => exact s_meth c (ie g X W c) o m apos cpos args
          | Subscript a i p =>
            show DE X W _ (if g.calm = true ∧ noStars args = true then callVF g.T.fn (cEx n g (.Subscript a i p)) (cA (cEx n g) args) else stuckE)
            split
            · rename_i cc
              exact s_callV c cc.1 (ie g X W c _) (ie g X W c) args cc.2 fun s Q h => Call_ h
            · exact de_stuck
          | _ => exact de_stuck
      | FormattedValue e conv sp pos =>
        cases sp with
        | some _ => exact de_stuck
        | none =>
          show DE X W _ (if conv = -1 then u1E fmtF (cEx n g e) else stuckE)
          split
          · rename_i q
            subst q
            exact de_fmt (ie g X W c e)
          · exact de_stuck
      | JoinedStr es pos =>
        cases es with
        | nil => exact de_stuck
        | cons a r =>
          cases r with
          | nil => exact de_stuck
          | cons b r => exact de_joined (ie g X W c)
      | ListComp elt gs scope pos => exact (comp_parts c (ie g X W c) (fun g' X' W' eg c' => by subst eg; exact ie _ X' W' c') (fun g' X' W' eg c' => by subst eg; exact it _ X' W' c') elt gs pos).1
      | _ => exact de_stuck
    refine ⟨he, fun g X W c e => ?_⟩
    cases e with
    | UnaryOp op a pos =>
      cases op with
      | Not => exact dt_not (it g X W c a)
      | _ => exact dt_truth (ie g X W c _) rfl
    | BoolOp op es pos =>
      cases op with
      | And =>
        cases es with
        | nil => exact dt_stuck
        | cons a r => exact (s_ands (it g X W c) pos a r).pt
      | Or =>
        cases es with
        | nil => exact dt_stuck
        | cons a r => exact (s_ors (it g X W c) pos a r).pt
    | Compare a ops bs pos => exact s_cmpT c (ie g X W c) a ops bs pos
    | IfExp _ _ _ _ => exact dt_stuck
    | _ => exact dt_truth (ie g X W c _) rfl
end
end Dy

/-! The compiler of statements, and that it is right; defs. -/
namespace Dy
open PySem PySem.Spec PyProof.Rows L2
/-- does a comprehension that is given to a name keep its place (PEP 709's exchange) -/
def swB (g : SC) (y : Str) (py : Pos) (scope : Scope) (lpos : Pos) : Bool :=
  g.sc.names.lookup y == some .local && py.line == lpos.line && !(scope.names.any fun (n, k) => n == y && (k == .local || k == .cell))
def suiteSC (g : SC) (hx : Option (Nat × Str)) : SC := { g with calm := false, top := false, hx := hx }
def isTupE : Expr → Bool
  | .Tuple _ _ _ => true
  | _ => false
/-- a, b = x, y: both local names -/
def parS (m : AM) (i j : Nat) : SM := fun e h => (m e h).bindS e fun vs h1 => match vs with
  | [v, w] => .nxt ((e.set i (some v)).set j (some w)) h1
  | _ => .stuck
def parOk (g : SC) (x y : Str) (px py : Pos) (es : List Expr) : Bool :=
  g.sc.names.lookup x == some .local && g.sc.names.lookup y == some .local && px.line == py.line && !(x == y) && !(es.all (foldedForSure 8)) && !(es.all (constantsAlone 8)) && noStars es && es.length == 2
def cAsgn (g : SC) (f : Expr → EM) (tg e : Expr) : SM := match tg with
  | .Name x _ => (match sslot g x with
    | some i => if hxFree g (.one i) = true then (match e with
      | .SetComp _ _ _ _ => stuckS
      | .DictComp _ _ _ _ _ => stuckS
      | e => asgS (f e) (.one i)) else stuckS
    | none => stuckS)
  | .Tuple ts _ _ => if isTupE e = true then (match ts, e with
      | [.Name x px, .Name y py], .Tuple es _ _ => (match sslot g x, sslot g y with
        | some i, some j => if g.calm = true ∧ parOk g x y px py es = true ∧ i ≠ j then parS (cA f es) i j else stuckS
        | _, _ => stuckS)
      | _, _ => stuckS) else if notComp e = true then (match cTgt g tg with
      | some t => if hxFree g t = true then asgS (f e) t else stuckS
      | none => stuckS) else stuckS
  | .Subscript o i _ => if isSlice i = true then stuckS else sixS (f e) (f o) (f i)
  | _ => stuckS
def cRaise (g : SC) (e : Expr) : SM := match e with
  | .Call (.Name x _) [.Constant (.str _) _ _] [] _ => if g.calm = true ∧ okName x = true ∧ isGl g x = true ∧ g.T.exc x = true then raiseS x else stuckS
  | .Call (.Name x _) [e] [] _ => if g.calm = true ∧ okName x = true ∧ isGl g x = true ∧ g.T.exc x = true ∧ isStar e = false then raise1S x (cEx 60 g e) else stuckS
  | _ => stuckS
def subOf (g : SC) (x : Str) (c : Str) : Option Bool := if g.T.exc c = true then g.T.sub c x else none
mutual
def cSt : Nat → SC → Stmt → SM
  | 0, _, _ => stuckS
  | n + 1, g, .Expr e _ => (match e with
    | .Constant (.str _) _ _ => nextS
    | e => if notComp e = true then exprS (cEx 60 g e) else stuckS)
  | n + 1, g, .Return e _ => (match e with
    | some e => retS (cEx 60 g e)
    | none => retNS)
  | n + 1, g, .Assign ts e _ => (match ts with
    | [tg] => cAsgn g (cEx 60 g) tg e
    | _ => stuckS)
  | n + 1, g, .If c a b _ => ifS (cTx 60 g c) (cSs n g a) (cSs n g b)
  | n + 1, g, .For tg iter body orelse _ => (match orelse with
    | [] => if g.calm = true ∧ g.stm = true ∧ isSet iter = false then (match cTgt g tg with
      | some t => if hxFree g t = true then forS (cIter g (cEx 60 g) iter) t (cSs n g body) else stuckS
      | none => stuckS) else stuckS
    | _ => stuckS)
  | n + 1, g, .While c body orelse _ => (match orelse with
    | [] => if g.stm = true then whileS 1000000 (cTx 60 g c) (cSs n g body) else stuckS
    | _ => stuckS)
  | n + 1, g, .Raise e cause _ => (match e, cause with
    | some e, none => cRaise g e
    | _, _ => stuckS)
  | n + 1, g, .Try body hs orelse fin _ => (match hs, orelse, fin with
    | [.ExceptHandler (some (.Name x _)) nm (b₀ :: suite) _], [], [] => if g.top = true ∧ g.calm = true ∧ okName x = true ∧ isGl g x = true ∧ g.T.exc x = true then (match nm with
      | none => tryS (cSs n g body) none (subOf g x) fun _ => cSs n (suiteSC g none) (b₀ :: suite)
      | some nm => (match g.sc.names.lookup nm, ixOf g.N nm with
        | some .local, some i => tryS (cSs n g body) (some i) (subOf g x) fun c => cSs n (suiteSC g (some (i, c))) (b₀ :: suite)
        | _, _ => stuckS)) else stuckS
    | _, _, _ => stuckS)
  | n + 1, g, .Pass _ => nextS
  | n + 1, g, .Break _ => brkS
  | n + 1, g, .Continue _ => cntS
  | _ + 1, _, _ => stuckS
def cSs : Nat → SC → List Stmt → SM
  | 0, _, _ => stuckS
  | n + 1, g, [] => nextS
  | n + 1, g, st :: rest => seqS (cSt n g st) (cSs n g rest)
end
section
variable {X : Cx} {W : WJ} {g : SC}
theorem mark_units (A : Around) (v : Option Value) : (A.mark v).units = A.units := rfl
theorem suite_ok (c : CxOk g X W) {i : Nat} {cn : Str} (a : Addr) (oe : Obj) (pn : List (Addr × Obj)) (hz : Zc (.ref (He.ga X.K cn)) none oe) (hd : ∃ vs, oe.data = .fields vs) : CxOk (suiteSC g (some (i, cn))) (X.suite a ((a, oe) :: pn)) ⟨fun _ _ _ _ => False, some (i, a)⟩ where
  hN := c.hN
  nd := c.nd
  sc := c.sc
  calm := fun h => nomatch h
  tk := takes0
  po := fun _ => PassesOwn.never
  top := fun h => nomatch h
  fn := c.fn
  tab := c.tab
  units := c.units
  kind := c.kind
  hx := fun j d h => by
    have h' : (some (i, cn) : Option (Nat × Str)) = some (j, d) := h
    cases h'
    exact ⟨a, oe, pn, X, rfl, hz, hd, rfl⟩
  hx0 := fun h => nomatch h
theorem suite_ok0 (c : CxOk g X W) (a : Addr) (oe : Obj) (pn : List (Addr × Obj)) : CxOk (suiteSC g none) (X.suite a ((a, oe) :: pn)) ⟨fun _ _ _ _ => False, none⟩ where
  hN := c.hN
  nd := c.nd
  sc := c.sc
  calm := fun h => nomatch h
  tk := takes0
  po := fun _ => PassesOwn.never
  top := fun h => nomatch h
  fn := c.fn
  tab := c.tab
  units := c.units
  kind := c.kind
  hx := fun j d h => nomatch h
  hx0 := fun _ => rfl
theorem tr_ok (c : CxOk g X W) (hc : g.calm = true) (w' : WX) (pn : List (Addr × Obj)) (xe : Value → Shared → Prop) (tk : Takes (X.tr pn xe) w') (po : PassesOwn (model X.prog X.w) X.A X.env xe) : CxOk g (X.tr pn xe) ⟨w', none⟩ where
  hN := c.hN
  nd := c.nd
  sc := c.sc
  calm := fun _ => ⟨(c.calm hc).1, rfl, (c.calm hc).2.2.1, (c.calm hc).2.2.2⟩
  tk := tk
  po := fun _ => po
  top := c.top
  fn := c.fn
  tab := c.tab
  units := c.units
  kind := c.kind
  hx := fun j d h => by rw [(c.calm hc).2.2.1] at h; cases h
  hx0 := fun _ => rfl
theorem block_fun (c : CxOk g X W) : X.env.blockKind = .function := by
  unfold Env.blockKind
  rw [c.sc, c.kind]; rfl
theorem swaps_name (c : CxOk g X W) (elt : Expr) (gs : List Comprehension) (scope : Scope) (lpos : Pos) (y : Str) (py : Pos) (l : Nat) : swapsWith (.ListComp elt gs scope lpos) (some (.Name y py)) l X.env = pure (swB g y py scope lpos) := by
  have hb := block_fun c
  have hk : X.env.kindOf y = g.sc.names.lookup y := by show X.env.scope.names.lookup y = _; rw [c.sc]
  unfold swapsWith swB
  simp only [hb, hk, Expr.pos]
  rfl
theorem swaps_sub (e o i : Expr) (p : Pos) (l : Nat) (env : PySem.Env) : swapsWith e (some (.Subscript o i p)) l env = pure false := by
  cases e <;> rfl
theorem swapped_one {tg e : Expr} (h : isTupE e = false) (env : PySem.Env) : swappedStores [tg] e env = pure none := by
  cases e <;> first | (cases h; done) | (cases tg <;> rfl)
theorem swapped_sub {o i e : Expr} {p : Pos} (env : PySem.Env) : swappedStores [.Subscript o i p] e env = pure none := by
  cases e <;> rfl
theorem ds_par {i j : Nat} {x y : Str} {es : List Expr} {ma : AM} {px py pt : Pos} {kt k2 : Nat} {pt2 pos : Pos} (c : CxOk g X W) (hc : g.calm = true) (hp : parOk g x y px py es = true) (hi : X.N[i]? = some x) (hj : X.N[j]? = some y) (hij : i ≠ j) (ha : DA X W es ma) :
    DS X W (.Assign [.Tuple [.Name x px, .Name y py] kt pt] (.Tuple es k2 pt2) pos) (parS ma i j) := by
  unfold parOk at hp
  simp only [Bool.and_eq_true, Bool.not_eq_true'] at hp
  obtain ⟨⟨⟨⟨⟨⟨⟨h1, h2⟩, h3⟩, h4⟩, h5⟩, h6⟩, h7⟩, h8⟩ := hp
  have hx : X.env.scope.names.lookup x = some .local := by rw [c.sc]; exact eq_of_beq h1
  have hy : X.env.scope.names.lookup y = some .local := by rw [c.sc]; exact eq_of_beq h2
  have hl : es.length = 2 := eq_of_beq h8
  match es, hl with
  | [a, b], _ =>
    have hb := block_fun c
    have kx1 : X.env.kindOf x = some .local := hx
    have ky1 : X.env.kindOf y = some .local := hy
    have sa : isStar a = false := (noStars_head h7).1
    have sb : isStar b = false := (noStars_head (noStars_head h7).2).1
    have hw : swappedStores [.Tuple [.Name x px, .Name y py] kt pt] (.Tuple [a, b] k2 pt2) X.env = pure (some [x, y]) := by
      have st : ([a, b].any fun | .Starred .. => true | _ => false) = false := by
        cases a <;> first | (cases sa; done) | (cases b <;> first | rfl | (cases sb; done))
      have hne : (x == y) = false := h4
      have hnl : px.line = py.line := eq_of_beq h3
      unfold swappedStores
      simp only [st, hb, h5, h6]
      simp [kx1, ky1, hnl, Expr.pos, List.eraseDups, List.eraseDupsBy, List.eraseDupsBy.loop, hne]
      have hxy : ¬ y = x := fun e => by rw [e] at hne; simp at hne
      have hyx : (y == x) = false := by simpa using hxy
      simp [hyx, hne]
      intro hst
      exfalso
      rcases hst with z | z
      · cases a <;> first | (cases sa; done) | exact Bool.false_ne_true z
      · cases b <;> first | (cases sb; done) | exact Bool.false_ne_true z
    obtain ⟨cal, w2, _, _⟩ := c.calm hc
    have nd : X.N.Nodup := by rw [c.hN]; exact c.nd
    refine ps_imp (ps_par cal nd hi hj hij hx hy ha hw) fun D σ H ⟨ρ, env, h, rl, p⟩ => ?_
    refine tG_mono (PostS.bind (R := RL (kx X W)) rl p) fun vs H1 ⟨ρ1, h1, d, x1, r1, p1⟩ => ?_
    have can : ∀ n, (kx X W).can n := fun n => by show (match W.hx with | none => True | some (j, _) => n ≠ j); rw [w2]; trivial
    split at p1
    · rename_i v w
      obtain ⟨a1, b1, rfl, ia, ib⟩ := r1.1.two
      have l : mrL [v, w] ≤ h1.cs.length := r1.2
      unfold mrL at l
      unfold mrL at l
      have rl1 := rl.ext x1
      have r2 := Rel.set (can i) rl1 (i := i) (d := v) (v := a1) ⟨ia, by omega⟩
      have r3 := Rel.set (can j) r2 (i := j) (d := w) (v := b1) ⟨ib, by omega⟩
      exact ⟨a1, b1, rfl, p1 ρ1 _ H1 x1.at.refl r3.eis r3.ewf⟩
    · exact p1.elim
theorem asg_stuck {tg e : Expr} {pos : Pos} : DS X W (.Assign [tg] e pos) stuckS := ds_stuck
theorem s_asgn (c : CxOk g X W) (tg e : Expr) (pos : Pos) : DS X W (.Assign [tg] e pos) (cAsgn g (cEx 60 g) tg e) := by
  have he := (s_all 60).1 g X W c
  have nd : X.N.Nodup := by rw [c.hN]; exact c.nd
  unfold cAsgn
  split
  · rename_i x px
    split
    · rename_i i hi
      split
      · rename_i hf
        obtain ⟨n1, n2, n3⟩ := sslot_is c hi
        have can := hxFree_is c hf i (by simp [Tgt.slots])
        split
        · exact ds_stuck
        · exact ds_stuck
        · rename_i h1 h2
          cases e with
          | ListComp elt gs scope lpos =>
            have sw := swaps_name c elt gs scope lpos x px pos.line
            cases hb : swB g x px scope lpos with
            | false =>
              rw [hb] at sw
              exact ds_set nd n1 n2 (he _) sw n3 can
            | true =>
              rw [hb] at sw
              have hl : X.env.scope.names.lookup x = some .local := by
                rw [c.sc]
                unfold swB at hb
                simp only [Bool.and_eq_true] at hb
                exact eq_of_beq hb.1.1
              exact (comp_parts c ((s_all 59).1 g X W c) (fun g' X' W' eg c' => by subst eg; exact (s_all 59).1 _ X' W' c') (fun g' X' W' eg c' => by subst eg; exact (s_all 59).2 _ X' W' c') elt gs lpos).2 i x px pos n1 hl sw
          | SetComp a b s p => exact absurd rfl (h1 a b s p)
          | DictComp a b d s p => exact absurd rfl (h2 a b d s p)
          | _ => exact ds_set nd n1 n2 (he _) (swaps_no rfl _ _ _) n3 can
      · exact ds_stuck
    · exact ds_stuck
  · rename_i ts kt pt
    split
    · rename_i ht
      split
      · rename_i x px y py es k2 pt2
        split
        · rename_i i j hi hj
          split
          · rename_i cc
            obtain ⟨c1, c2, c3⟩ := cc
            exact ds_par c c1 c2 (sslot_is c hi).1 (sslot_is c hj).1 c3 (s_cA he es)
          · exact ds_stuck
        · exact ds_stuck
      · exact ds_stuck
    · rename_i ht
      split
      · rename_i hn
        split
        · rename_i t et
          split
          · rename_i hf
            obtain ⟨gg, h1, h2⟩ := s_tgt c et hf
            exact ds_asg (he e) h1 h2 hn (swapped_one (bfalse ht) _) rfl
          · exact ds_stuck
        · exact ds_stuck
      · exact ds_stuck
  · rename_i o i sp
    split
    · exact ds_stuck
    · rename_i hs
      have hs := bfalse hs
      refine ps_imp (ps_asg (he e) (pg_sub (he o) (he i) set_list (fun v => by cases i <;> first | rfl | (cases hs; done))) (swaps_sub e o i sp pos.line X.env) (swapped_sub _) rfl) fun D σ H ⟨ρ, env, h, rl, p⟩ => ?_
      refine tG_mono (PostS.bind (R := RD (kx X W)) rl p) fun b H1 ⟨ρ1, h1, a1, x1, ra1, p1⟩ => ?_
      have rl1 := rl.ext x1
      refine tG_mono (PostS.bind (R := RD (kx X W)) rl1 p1) fun b2 H2 ⟨ρ2, h2, a2, x2, ra2, p2⟩ => ?_
      have rl2 := rl1.ext x2
      refine tG_mono (PostS.bind (R := RD (kx X W)) rl2 p2) fun b3 H3 ⟨ρ3, h3, a3, x3, ra3, p3⟩ => ?_
      have rl3 := rl2.ext x3
      cases e : setIx a2 a3 a1 h3 with
      | none => rw [e] at p3; exact p3.elim
      | some h4 =>
        rw [e] at p3
        refine setIx_is x3.at (ra2.ext x3 rl2.len) ra3 ((ra1.ext x2 rl1.len).ext x3 rl2.len) e fun H4 x4 => ?_
        have rl4 := rl3.ext x4
        exact p3 ρ3 σ H4 x4 rl4.eis rl4.ewf
  · exact ds_stuck
theorem s_raise (c : CxOk g X W) (e : Expr) (pos : Pos) : DS X W (.Raise (some e) none pos) (cRaise g e) := by
  unfold cRaise
  split
  · split
    · rename_i x p m j p2 pos1 cc
      obtain ⟨c1, c2, c3, c4⟩ := cc
      obtain ⟨q1, q2⟩ := c.tab.exc x c4
      obtain ⟨e1, e2, e3, e4⟩ := He.exc_ok q2
      exact ds_raise (c.calm c1).1 c.tk e1 q1 e2 (raises_own e3 e4) (gl_is c c3) (okName_is c2).1
    · exact ds_stuck
  · split
    · rename_i x p e1 pos1 nc cc
      obtain ⟨c1, c2, c3, c4, c5⟩ := cc
      obtain ⟨q1, q2⟩ := c.tab.exc x c4
      obtain ⟨e1, e2, e3, e4⟩ := He.exc_ok q2
      exact ds_raise1 (c.calm c1).1 c.tk e1 q1 e2 (raises_own e3 e4) (gl_is c c3) (okName_is c2).1 ((s_all 60).1 g X W c _) c5
    · exact ds_stuck
  · exact ds_stuck
theorem s_st : ∀ n : Nat, (∀ (g : SC) (X : Cx) (W : WJ), CxOk g X W → ∀ st, DS X W st (cSt n g st)) ∧ (∀ (g : SC) (X : Cx) (W : WJ), CxOk g X W → ∀ sts, DSs X W sts (cSs n g sts))
  | 0 => ⟨fun g X W c st => by unfold cSt; exact ds_stuck, fun g X W c sts => by unfold cSs; exact dss_stuck⟩
  | n + 1 => by
    obtain ⟨i1, i2⟩ := s_st n
    refine ⟨fun g X W c st => ?_, fun g X W c sts => ?_⟩
    · have he := (s_all 60).1 g X W c
      have ht := (s_all 60).2 g X W c
      cases st with
      | Expr e pos =>
        show DS X W _ (match e with
          | .Constant (.str _) _ _ => nextS
          | e => if notComp e = true then exprS (cEx 60 g e) else stuckS)
        split
        · exact ds_doc
        · split
          · rename_i h
            exact ds_expr (he _) h
          · exact ds_stuck
      | Return e pos =>
        cases e with
        | none => exact ds_retN
        | some e => exact ds_ret (he e)
      | Assign ts e pos =>
        show DS X W _ (match ts with | [tg] => cAsgn g (cEx 60 g) tg e | _ => stuckS)
        split
        · exact s_asgn c _ e pos
        · exact ds_stuck
      | If t a b pos => exact ds_if (ht t) (i2 g X W c a) (i2 g X W c b)
      | For tg iter body orelse pos =>
        cases orelse with
        | cons _ _ => exact ds_stuck
        | nil =>
          show DS X W _ (if g.calm = true ∧ g.stm = true ∧ isSet iter = false then (match cTgt g tg with
            | some t => if hxFree g t = true then forS (cIter g (cEx 60 g) iter) t (cSs n g body) else stuckS
            | none => stuckS) else stuckS)
          split
          · rename_i cc
            split
            · rename_i t et
              split
              · rename_i hf
                obtain ⟨gg, h1, h2⟩ := s_tgt c et hf
                exact ds_for (c.po cc.2.1) (c.calm cc.1).1 (s_iter c he iter) h1 h2 (i2 g X W c body) (iter_plain cc.2.2 _)
              · exact ds_stuck
            · exact ds_stuck
          · exact ds_stuck
      | While t body orelse pos =>
        cases orelse with
        | cons _ _ => exact ds_stuck
        | nil =>
          show DS X W _ (if g.stm = true then whileS 1000000 (cTx 60 g t) (cSs n g body) else stuckS)
          split
          · rename_i hs
            exact ds_while (c.po hs) (ht t) (i2 g X W c body)
          · exact ds_stuck
      | Raise e cause pos =>
        cases e with
        | none => exact ds_stuck
        | some e =>
          cases cause with
          | none => exact s_raise c e pos
          | some _ => exact ds_stuck
      | Try body hs orelse fin pos =>
        show DS X W _ (match hs, orelse, fin with
          | [.ExceptHandler (some (.Name x _)) nm (b₀ :: suite) _], [], [] => if g.top = true ∧ g.calm = true ∧ okName x = true ∧ isGl g x = true ∧ g.T.exc x = true then (match nm with
            | none => tryS (cSs n g body) none (subOf g x) fun _ => cSs n (suiteSC g none) (b₀ :: suite)
            | some nm => (match g.sc.names.lookup nm, ixOf g.N nm with
              | some .local, some i => tryS (cSs n g body) (some i) (subOf g x) fun c => cSs n (suiteSC g (some (i, c))) (b₀ :: suite)
              | _, _ => stuckS)) else stuckS
          | _, _, _ => stuckS)
        split
        · rename_i x np nm b₀ suite hp
          split
          · rename_i cc
            obtain ⟨c1, c2, c3, c4, c5⟩ := cc
            obtain ⟨x1, x2, x3, x4⟩ := c.calm c2
            obtain ⟨t1, t2⟩ := c.top c1
            obtain ⟨o1, o2, o3⟩ := okName_is c3
            obtain ⟨w, hx⟩ := W
            have x2 : hx = none := x2
            subst x2
            have nd : X.N.Nodup := by rw [c.hN]; exact c.nd
            have nm_ok : Names X x (.ref (He.ga X.K x)) := ⟨gl_is c c4, o1, .inl (c.tab.exc x c5).1⟩
            have sub_ok : ∀ d k, subOf g x d = some k → PySem.W.exmOne X.K (.ref (He.ga X.K d)) (.ref (He.ga X.K x)) = some k := fun d k h => by
              unfold subOf at h
              split at h
              · exact (c.tab.sub d x k h).2.1
              · cases h
            split
            · refine ds_try t1 t2 nm_ok c.tk sub_ok (fun w' pn xe tk po => i2 g _ _ (tr_ok c c2 w' pn xe tk po) body) (fun d a oe pn hz hd hs => i2 _ _ _ (suite_ok0 c a oe pn) (b₀ :: suite))
            · rename_i nm'
              split
              · rename_i i hl hi
                exact ds_try_as t1 t2 nd (by rw [c.hN]; exact ixOf_get hi) (by show X.env.scope.names.lookup nm' = _; rw [c.sc]; exact hl) nm_ok c.tk sub_ok (fun w' pn xe tk po => i2 g _ _ (tr_ok c c2 w' pn xe tk po) body)
                  (fun d a oe pn hz hd hs => i2 _ _ _ (suite_ok c a oe pn hz hd) (b₀ :: suite))
              · exact ds_stuck
          · exact ds_stuck
        · exact ds_stuck
      | Pass pos => exact ds_pass
      | Break pos => exact ds_brk
      | Continue pos => exact ds_cnt
      | _ => exact ds_stuck
    · cases sts with
      | nil => exact dss_nil
      | cons st rest => exact dss_cons (i1 g X W c st) (i2 g X W c rest)

/-! ### defs -/
def finF (l : Nat) (d : D) (h : PH) : Res D := .ok d (h.cut (max l (max h.lim d.mr)))
def runF (body : SM) (np nn : Nat) : Fn := fun ds h => if ds.length = np then (match body (ds.map some ++ List.replicate (nn - np) none) h with
  | .nxt _ h1 => finF h.cs.length .non h1
  | .ret d h1 => finF h.cs.length d h1
  | .exc c _ h1 => .exc c (h1.cut (max h.cs.length h1.lim))
  | _ => .stuck) else .stuck
def defSC (N : List Str) (sc : Scope) (T : Tab) (k : Nat) : SC := ⟨N, sc, T, k, true, true, none, fun _ => true, true⟩
theorem isL_get_some {K : KX} {ρ : List Addr} {H : Hp} {ds : List D} {vs : List V} (i : IsL K ρ H ds vs) (m : Nat) (hj : K.J (vs.map some ++ List.replicate m none)) : EnvIs K ρ H (ds.map some ++ List.replicate m none) (vs.map some ++ List.replicate m none) := by
  refine ⟨by simp [i.length], fun j d e => ?_, hj⟩
  by_cases hl : j < ds.length
  · rw [List.getElem?_append_left (by rw [List.length_map]; exact hl), List.getElem?_map] at e
    cases q : ds[j]? with
    | none => rw [q] at e; cases e
    | some d' =>
      rw [q] at e
      have : d' = d := by simpa using e
      subst this
      obtain ⟨v, e1, e2⟩ := i.get q
      refine ⟨v, ?_, e2⟩
      rw [List.getElem?_append_left (by rw [List.length_map, i.length]; exact hl), List.getElem?_map, e1]; rfl
  · rw [List.getElem?_append_right (by rw [List.length_map]; omega), List.getElem?_replicate] at e
    split at e <;> cases e
theorem envWf_start {ds : List D} {n m : Nat} (l : mrL ds ≤ n) : EnvWf (ds.map some ++ List.replicate m none) n := fun j d e => by
  by_cases hl : j < ds.length
  · rw [List.getElem?_append_left (by rw [List.length_map]; exact hl), List.getElem?_map] at e
    cases q : ds[j]? with
    | none => rw [q] at e; cases e
    | some d' =>
      rw [q] at e
      have : d' = d := by simpa using e
      subst this
      have := mrL_get q
      omega
  · rw [List.getElem?_append_right (by rw [List.length_map]; omega), List.getElem?_replicate] at e
    split at e <;> cases e
/-- THE RULE for a def of the text -/
theorem def_ok {P : Program} {w : World} {K : PySem.W.Frag} {mg : Str → Option Value} {base : Heap} {T : Tab} {k n : Nat} {x qual : Str} {params : Arguments} {body : List Stmt} {scope : Scope} {f : Addr} {fd : FuncData} {N ps : List Str} {dvs : List V} {kws : List (Str × V)}
    (F : FunD K x qual params body scope dvs kws f fd) (S : FnScope N ps scope) (tab : TabOk P w K mg base T k) : FnOk P w K mg base (L2.CX P w) (k + 1) f fd ps (spD ⟨K, none⟩ ps.length (runF (cSs n (defSC N scope T k) body) ps.length N.length)) := by
  refine F.ok S (fun vs H Q E h => h.1) (fun cdv A outer s H vs Q E hr h => ?_)
  obtain ⟨hlen, ρ, ds, h, at_, ra, p⟩ := h
  have hds : ds.length = ps.length := by rw [← ra.1.length]; exact hlen
  have cok : CxOk (defSC N scope T k) (cxOf (L2.CX P w) P w K mg base N qual scope f cdv A outer s H E) ⟨fun cls d _ H => E cls d H, none⟩ :=
    { hN := rfl, nd := S.nd, sc := rfl, calm := fun _ => ⟨rfl, rfl, rfl, hr⟩, tk := takes_of rfl rfl rfl rfl, po := fun _ => passes_of rfl, top := fun _ => ⟨rfl, rfl⟩, fn := fun _ _ => rfl, tab := tab, units := by have := hr.un; show (A.deeper _).units + 65 < cLine; omega, kind := S.kind,
      hx := (fun i c h => nomatch h), hx0 := fun _ => rfl }
  refine ⟨_, (s_st n).2 _ _ _ cok body, ?_⟩
  refine ⟨ρ, ds.map some ++ List.replicate (N.length - ps.length) none, h, ⟨?_, at_.heap, at_.wf, envWf_start ra.2⟩, ?_⟩
  · show EnvIs _ ρ H _ (vs.map some ++ List.replicate (N.length - vs.length) none)
    rw [hlen]
    exact isL_get_some ra.1 _ trivial
  · unfold runF at p
    rw [if_pos hds] at p
    cases e : cSs n (defSC N scope T k) body (ds.map some ++ List.replicate (N.length - ps.length) none) h with
    | stuck => rw [e] at p; exact p.elim
    | brk _ _ => rw [e] at p; exact p.elim
    | cnt _ _ => rw [e] at p; exact p.elim
    | nxt e1 h1 =>
      rw [e] at p
      intro ρ1 σ1 H1 x1 _ _
      have l := x1.le
      have wf := x1.wf.le
      rw [at_.heap.len] at l
      exact p _ _ H1 (x1.cut (n := max h.cs.length (max h1.lim (D.non).mr)) (by rw [at_.heap.len]; omega) (by omega)) is_non
    | ret d h1 =>
      rw [e] at p
      intro ρ1 v1 H1 x1 r1
      have l := x1.le
      have wf := x1.wf.le
      have r2 := r1.2
      rw [at_.heap.len] at l
      refine p _ _ H1 (x1.cut (n := max h.cs.length (max h1.lim d.mr)) (by rw [at_.heap.len]; omega) (by omega)) ⟨Is.cut (by omega) r1.1, ?_⟩
      show d.mr ≤ (h1.cs.take _).length
      rw [List.length_take]; omega
    | exc c e1 h1 =>
      rw [e] at p
      intro ρ1 σ1 H1 x1 _ _
      exact p _ H1 (x1.cut (n := max h.cs.length h1.lim) (by rw [at_.heap.len]; omega) (by omega))
end
end Dy

/-! What the top left, read by one look; the table of a law. -/
namespace Dy
open PySem PySem.Spec PyProof.Rows L2
/-! ### constants of the module, nested -/
mutual
def relD (K : PySem.W.Frag) : D → Value → Bool
  | .non, .none => true
  | .bl b, .bool c => b == c
  | .int i, .int j _ => decide (i = j)
  | .str x, .str y _ => decide (x = y)
  | .tup ds, .ref a => (match K.lookup a with
    | some ⟨.type c, _, .seq its _, _⟩ => decide (c = "tuple") && (decide (its.size ≤ sizeLine) && relDs K ds its.toList)
    | _ => false)
  | .frl ds, .ref a => (match K.lookup a with
    | some ⟨.type c, none, .seq its _, _⟩ => decide (c = "list") && (decide (its.size ≤ sizeLine) && relDs K ds its.toList)
    | _ => false)
  | _, _ => false
def relDs (K : PySem.W.Frag) : List D → List Value → Bool
  | [], [] => true
  | d :: ds, u :: us => relD K d u && relDs K ds us
  | _, _ => false
end
def ConV (K : PySem.W.Frag) (d : D) (u : Value) (v : V) : Prop := RelV v u ∧ (∀ hx ρ H, Is ⟨K, hx⟩ ρ H d v) ∧ d.mr = 0
def ConL (K : PySem.W.Frag) (ds : List D) (us : List Value) (vs : List V) : Prop := Vals vs us ∧ (∀ hx ρ H, IsL ⟨K, hx⟩ ρ H ds vs) ∧ mrL ds = 0
mutual
theorem relD_ok {K : PySem.W.Frag} : ∀ (d : D) (u : Value), relD K d u = true → ∃ v, ConV K d u v
  | .non, u, h => by
    cases u with
    | none => exact ⟨.non, rfl, fun hx ρ H => by unfold Is; rfl, rfl⟩
    | _ => simp [relD] at h
  | .bl b, u, h => by
    cases u with
    | bool c =>
      have e : b = c := by unfold relD at h; exact eq_of_beq h
      exact ⟨.bl b, by rw [e]; rfl, fun hx ρ H => by unfold Is; rfl, rfl⟩
    | _ => simp [relD] at h
  | .int i, u, h => by
    cases u with
    | int j t =>
      have e : i = j := by unfold relD at h; exact of_decide_eq_true h
      exact ⟨.int i, ⟨t, by rw [e]⟩, fun hx ρ H => by unfold Is; rfl, rfl⟩
    | _ => simp [relD] at h
  | .str x, u, h => by
    cases u with
    | str y t =>
      have e : x = y := by unfold relD at h; exact of_decide_eq_true h
      exact ⟨.str x, ⟨t, by rw [e]⟩, fun hx ρ H => by unfold Is; rfl, rfl⟩
    | _ => simp [relD] at h
  | .tup ds, u, h => by
    cases u with
    | ref a =>
      unfold relD at h
      split at h
      · rename_i c od its n sl q
        obtain ⟨h1, h2⟩ := He.ba h
        obtain ⟨h3, h4⟩ := He.ba h2
        obtain ⟨vs, r, i, m⟩ := relDs_ok ds _ h4
        refine ⟨.ref a, rfl, fun hx ρ H => ?_, m⟩
        unfold Is
        exact ⟨a, vs, rfl, .inr ⟨_, its, n, q, congrArg Value.type (of_decide_eq_true h1), rfl, of_decide_eq_true h3, r⟩, i hx ρ H⟩
      · cases h
    | _ => simp [relD] at h
  | .frl ds, u, h => by
    cases u with
    | ref a =>
      unfold relD at h
      split at h
      · rename_i c its n sl q
        obtain ⟨h1, h2⟩ := He.ba h
        obtain ⟨h3, h4⟩ := He.ba h2
        obtain ⟨vs, r, i, m⟩ := relDs_ok ds _ h4
        refine ⟨.ref a, rfl, fun hx ρ H => ?_, m⟩
        unfold Is
        exact ⟨a, vs, rfl, .inr ⟨_, its, n, q, congrArg Value.type (of_decide_eq_true h1), rfl, rfl, of_decide_eq_true h3, r⟩, i hx ρ H⟩
      · cases h
    | _ => simp [relD] at h
  | .ref n, u, h => by simp [relD] at h
  | .ty n, u, h => by simp [relD] at h
  | .glb n, u, h => by simp [relD] at h
theorem relDs_ok {K : PySem.W.Frag} : ∀ (ds : List D) (us : List Value), relDs K ds us = true → ∃ vs, ConL K ds us vs
  | [], us, h => by
    cases us with
    | nil => exact ⟨[], .nil, fun hx ρ H => by unfold IsL; rfl, rfl⟩
    | cons _ _ => simp [relDs] at h
  | d :: ds, us, h => by
    cases us with
    | nil => simp [relDs] at h
    | cons u us =>
      unfold relDs at h
      obtain ⟨h1, h2⟩ := He.ba h
      obtain ⟨v, r, i, m⟩ := relD_ok d u h1
      obtain ⟨vs, rs, is, ms⟩ := relDs_ok ds us h2
      refine ⟨v :: vs, .cons r rs, fun hx ρ H => ?_, by unfold mrL; omega⟩
      unfold IsL
      exact ⟨v, vs, rfl, i hx ρ H, is hx ρ H⟩
end
/-! ### one look -/
structure Tb where
  con : List (Str × D) := []
  free : List Str := []
  exc : List Str := []
  sub : List ((Str × Str) × Bool) := []
  gcd : List Str := []
  subT : List ((Str × Str) × Bool) := []
  dic : List (Str × List (Str × D)) := []
/-- a dict's entries, as told -/
def entB (K : PySem.W.Frag) : List (Str × D) → List DictEntry → Bool
  | [], [] => true
  | p :: r, e :: s => (match e.key with
    | .str y _ => decide (y = p.1) && (relD K p.2 e.val && entB K r s)
    | _ => false)
  | _, _ => false
def dicB (K : PySem.W.Frag) (x : Str) (l : List (Str × D)) : Bool := (He.Fa.glo x).ok K && (match K.lookup (He.ga K x) with
  | some ⟨_, _, .dict es _, _⟩ => entB K l es.toList
  | _ => false)
theorem entB_find {K : PySem.W.Frag} : ∀ {l : List (Str × D)} {es : List DictEntry}, entB K l es = true → ∀ z : Str, (∀ d, l.lookup z = some d → ∃ e v, es.find? (·.key.isStr z) = some e ∧ ConV K d e.val v) ∧ (l.lookup z = none → es.find? (·.key.isStr z) = none) ∧ es.any (·.refKey) = false
  | [], [], _, z => ⟨fun d h => (by cases h), fun _ => rfl, rfl⟩
  | [], _ :: _, h, _ => by simp [entB] at h
  | _ :: _, [], h, _ => by simp [entB] at h
  | (k, dd) :: r, e :: s, h, z => by
    unfold entB at h
    split at h
    · rename_i y t q
      obtain ⟨h1, h2⟩ := He.ba h
      obtain ⟨h3, h4⟩ := He.ba h2
      have hy : y = k := of_decide_eq_true h1
      obtain ⟨i1, i2, i3⟩ := entB_find h4 z
      have ks : e.key.isStr z = (z == k) := by
        rw [q, hy]
        show (k == z) = (z == k)
        exact Bool.eq_iff_iff.mpr ⟨fun a => beq_iff_eq.mpr (eq_of_beq a).symm, fun a => beq_iff_eq.mpr (eq_of_beq a).symm⟩
      have rk : e.refKey = false := by
        unfold DictEntry.refKey
        rw [q]
      refine ⟨fun d hd => ?_, fun hn => ?_, by rw [List.any_cons, rk, i3]; rfl⟩
      · rw [List.lookup_cons] at hd
        rw [List.find?_cons, ks]
        cases c : z == k with
        | true =>
          rw [c] at hd
          cases hd
          obtain ⟨v, cv⟩ := relD_ok _ _ h3
          exact ⟨e, v, rfl, cv⟩
        | false =>
          rw [c] at hd
          exact i1 d hd
      · rw [List.lookup_cons] at hn
        rw [List.find?_cons, ks]
        cases c : z == k with
        | true => rw [c] at hn; cases hn
        | false =>
          rw [c] at hn
          exact i2 hn
    · cases h
theorem dicB_ok {w : World} {K : PySem.W.Frag} {mg : Str → Option Value} {x : Str} {l : List (Str × D)} (h : dicB K x l = true) (hm : mg x = some (.ref (He.ga K x))) (kd : ∃ es n, KDict K w (He.ga K x) es n) : DicOk w K mg x l := by
  obtain ⟨h1, h2⟩ := He.ba h
  split at h2
  · rename_i c od es n sl q
    have ns : ∀ z, PySem.W.nsIn K (He.ga K x) z = (match es.toList.find? (·.key.isStr z) with
      | some e => some (some e.val)
      | none => if es.toList.any (·.refKey) then none else some none) := fun z => by
      unfold PySem.W.nsIn
      rw [q]
      rfl
    refine ⟨hm, kd, fun z d hd => ?_, fun z hz => ?_⟩
    · obtain ⟨i1, i2, i3⟩ := entB_find h2 z
      obtain ⟨e, v, e1, e2, e3, e4⟩ := i1 d hd
      exact ⟨e.val, v, by rw [ns, e1], e2, e3, e4⟩
    · obtain ⟨i1, i2, i3⟩ := entB_find h2 z
      rw [ns, i2 hz, i3]; rfl
  · cases h2
def excCB (K : PySem.W.Frag) (A : Addr) : Bool := He.eqO (PySem.W.findIn K (.ref A) "__getattribute__") (some (some (.builtin "BaseException.__getattribute__"))) && (He.eqO (PySem.W.findIn K (.ref A) "__getattr__") (some none) && (decide (PySem.W.subIn K (.ref A) (.type "BaseException") = some true) && (PySem.W.hasDictIn K A &&
  (He.eqO (PySem.W.findIn K (.ref A) "__class__") (some (some (.builtin "object.__class__"))) && (He.eqO (PySem.W.specialIn K (.builtin "object.__class__") "__get__") (some (some (.builtin "getset_descriptor.__get__"))) && (decide (PySem.W.takesIn K (.builtin "object.__class__") = some true) && decide (PySem.W.mroIn K A (.type "object") = some true)))))))
theorem excCB_ok {K : PySem.W.Frag} {A : Addr} (h : excCB K A = true) : ExcC K A := by
  obtain ⟨h1, h⟩ := He.ba h
  obtain ⟨h2, h⟩ := He.ba h
  obtain ⟨h3, h⟩ := He.ba h
  obtain ⟨h4, h⟩ := He.ba h
  obtain ⟨h5, h⟩ := He.ba h
  obtain ⟨h6, h⟩ := He.ba h
  obtain ⟨h7, h8⟩ := He.ba h
  exact ⟨He.eqO_ok h1, He.eqO_ok h2, of_decide_eq_true h3, h4, He.eqO_ok h5, He.eqO_ok h6, of_decide_eq_true h7, of_decide_eq_true h8⟩
def conB (K : PySem.W.Frag) (x : Str) (d : D) : Bool := match PySem.W.nsIn K mainGlobals x with
  | some (some u) => relD K d u
  | _ => false
def subB (K : PySem.W.Frag) (c x : Str) (b : Bool) : Bool := (He.Fa.glo x).ok K && (decide (PySem.W.exmOne K (.ref (He.ga K c)) (.ref (He.ga K x)) = some b) && (decide (PySem.W.kitOne K (.ref (He.ga K c)) (.ref (He.ga K x)) = some b) && excCB K (He.ga K c)))
def subTB (K : PySem.W.Frag) (c x : Str) (b : Bool) : Bool := (He.Fa.free x).ok K && (decide (x = "ValueError") && (decide (PySem.W.kitOne K (.ref (He.ga K c)) (.type "ValueError") = some b) && excCB K (He.ga K c)))
def Tb.ok (t : Tb) (glo : List Str) (K : PySem.W.Frag) : Bool := (t.dic.all fun p => dicB K p.1 p.2) && ((t.gcd.all fun x => He.eqO (PySem.W.nsIn K mainGlobals x) (some (some (.builtin "math.gcd")))) && ((t.subT.all fun p => subTB K p.1.1 p.1.2 p.2) && ((t.con.all fun p => conB K p.1 p.2) && ((t.free.all fun x => (He.Fa.free x).ok K) && ((t.exc.all fun x => (He.Fa.glo x).ok K && (He.Fa.exc x).ok K) && ((t.sub.all fun p => subB K p.1.1 p.1.2 p.2) && glo.all fun x => (He.Fa.glo x).ok K))))))
structure TbOk (w : World) (K : PySem.W.Frag) (mg : Str → Option Value) (t : Tb) (glo : List Str) : Prop where
  con : ∀ p ∈ t.con, ∃ u v, mg p.1 = some u ∧ ConV K p.2 u v
  free : ∀ x ∈ t.free, mg x = none
  exc : ∀ x ∈ t.exc, mg x = some (.ref (He.ga K x)) ∧ (He.Fa.exc x).ok K = true
  sub : ∀ p ∈ t.sub, mg p.1.2 = some (.ref (He.ga K p.1.2)) ∧ PySem.W.exmOne K (.ref (He.ga K p.1.1)) (.ref (He.ga K p.1.2)) = some p.2 ∧ PySem.W.kitOne K (.ref (He.ga K p.1.1)) (.ref (He.ga K p.1.2)) = some p.2 ∧ ExcC K (He.ga K p.1.1)
  glo : ∀ x ∈ glo, mg x = some (.ref (He.ga K x))
  gcd : ∀ x ∈ t.gcd, mg x = some (.builtin "math.gcd")
  subT : ∀ p ∈ t.subT, mg p.1.2 = none ∧ p.1.2 = "ValueError" ∧ PySem.W.kitOne K (.ref (He.ga K p.1.1)) (.type "ValueError") = some p.2 ∧ ExcC K (He.ga K p.1.1)
  dic : ∀ p ∈ t.dic, DicOk w K mg p.1 p.2
theorem Tb.ok_is {w : World} {t : Tb} {gl : List Str} {K : PySem.W.Frag} {h : Heap} {mg : Str → Option Value} (X : K.In h) (G : h.Ns mainGlobals mg) (e : t.ok gl K = true) (kd : ∀ p ∈ t.dic, ∃ es n, KDict K w (He.ga K p.1) es n) : TbOk w K mg t gl := by
  obtain ⟨h8, e⟩ := He.ba e
  obtain ⟨h6, e⟩ := He.ba e
  obtain ⟨h7, e⟩ := He.ba e
  obtain ⟨h1, e⟩ := He.ba e
  obtain ⟨h2, e⟩ := He.ba e
  obtain ⟨h3, e⟩ := He.ba e
  obtain ⟨h4, h5⟩ := He.ba e
  refine ⟨fun p hp => ?_, fun x hx => He.free_ok X G (List.all_eq_true.mp h2 x hx), fun x hx => ?_, fun p hp => ?_, fun x hx => He.glo_ok X G (List.all_eq_true.mp h5 x hx), fun x hx => PySem.W.mg_of X G (He.eqO_ok (List.all_eq_true.mp h6 x hx)), fun p hp => ?_, fun p hp => dicB_ok (List.all_eq_true.mp h8 p hp) (He.glo_ok X G (He.ba (List.all_eq_true.mp h8 p hp)).1) (kd p hp)⟩
  · have z := List.all_eq_true.mp h1 p hp
    unfold conB at z
    split at z
    · rename_i u q
      obtain ⟨v, c⟩ := relD_ok _ _ z
      exact ⟨u, v, PySem.W.mg_of X G q, c⟩
    · cases z
  · obtain ⟨z1, z2⟩ := He.ba (List.all_eq_true.mp h3 x hx)
    exact ⟨He.glo_ok X G z1, z2⟩
  · obtain ⟨z1, z⟩ := He.ba (List.all_eq_true.mp h4 p hp)
    obtain ⟨z2, z⟩ := He.ba z
    obtain ⟨z3, z4⟩ := He.ba z
    exact ⟨He.glo_ok X G z1, of_decide_eq_true z2, of_decide_eq_true z3, excCB_ok z4⟩
  · obtain ⟨z1, z⟩ := He.ba (List.all_eq_true.mp h7 p hp)
    obtain ⟨z2, z⟩ := He.ba z
    obtain ⟨z3, z4⟩ := He.ba z
    exact ⟨He.free_ok X G z1, of_decide_eq_true z2, of_decide_eq_true z3, excCB_ok z4⟩
def subLook (c x : Str) : List ((Str × Str) × Bool) → Option Bool
  | [] => none
  | p :: r => if p.1.1 = c ∧ p.1.2 = x then some p.2 else subLook c x r
theorem subLook_mem {c x : Str} {b : Bool} : ∀ {l}, subLook c x l = some b → ((c, x), b) ∈ l
  | [], h => by cases h
  | p :: r, h => by
    unfold subLook at h
    split at h
    · rename_i e
      obtain ⟨⟨p1, p2⟩, p3⟩ := p
      obtain ⟨rfl, rfl⟩ := e
      cases h
      exact List.mem_cons_self
    · exact List.mem_cons_of_mem _ (subLook_mem h)
/-- the table of a def: what the top holds, the defs that it calls -/
def Tb.tab (t : Tb) (fs : List (Str × (Nat × Fn))) : Tab := ⟨fun x => fs.lookup x, fun x => t.con.lookup x, fun x => t.free.contains x, fun x => t.exc.contains x, fun c x => subLook c x t.sub, fun x => t.gcd.contains x, fun c x => subLook c x t.subT, fun x => t.dic.lookup x⟩
/-- a called def -/
def Cal (P : Program) (w : World) (K : PySem.W.Frag) (mg : Str → Option Value) (base : Heap) (k : Nat) (x : Str) (n : Nat) (f : Fn) : Prop :=
  ∃ a fd ps, mg x = some (.ref a) ∧ PySem.W.keepIn K (.ref a) = true ∧ Binds K fd ps [] ∧ FnOk P w K mg base (L2.CX P w) k a fd ps (spD ⟨K, none⟩ n f) ∧ a = He.ga K x
def Cals (P : Program) (w : World) (K : PySem.W.Frag) (mg : Str → Option Value) (base : Heap) (k : Nat) (fs : List (Str × (Nat × Fn))) : Prop := ∀ p ∈ fs, Cal P w K mg base k p.1 p.2.1 p.2.2
theorem Cals.nil {P w K mg base k} : Cals P w K mg base k [] := fun p h => by cases h
theorem Cals.cons {P w K mg base k x n f fs} (h : Cal P w K mg base k x n f) (r : Cals P w K mg base k fs) : Cals P w K mg base k ((x, n, f) :: fs) := fun p hp => by
  rcases List.mem_cons.mp hp with e | e
  · subst e; exact h
  · exact r p e
theorem tab_ok {P : Program} {w : World} {K : PySem.W.Frag} {mg : Str → Option Value} {base : Heap} {k : Nat} {t : Tb} {gl : List Str} {fs : List (Str × (Nat × Fn))} (T : TbOk w K mg t gl) (C : Cals P w K mg base k fs) : TabOk P w K mg base (t.tab fs) k where
  fn := fun x n f h => C _ (lookup_mem (l := fs) h)
  con := fun x d h => by
    obtain ⟨u, v, h1, h2, h3, h4⟩ := T.con _ (lookup_mem (l := t.con) h)
    exact ⟨u, v, h1, h2, h3, h4⟩
  free := fun x h => T.free x (by simpa [Tb.tab] using h)
  exc := fun x h => T.exc x (by simpa [Tb.tab] using h)
  sub := fun c x b h => T.sub _ (subLook_mem h)
  gcd := fun x h => T.gcd x (by simpa [Tb.tab] using h)
  subT := fun c x b h => T.subT _ (subLook_mem h)
  dic := fun x l h => T.dic _ (lookup_mem (l := t.dic) h)
/-! ### the Hook -/
abbrev AlX : Type := He.AlD × List (Option (List (Option (Str × Int))))
def obsX (t : Tb) (gl : List Str) (fn : List He.DefD) (K : PySem.W.Frag) : AlX := ((t.ok gl K && fn.all fun d => d.ok K, fn.map fun d => He.fnW K d.at_), t.dic.map fun p => He.dicW K (He.ga K p.1))
def valX (t : Tb) (fn : List He.DefD) (w : World) : AlX := ((true, fn.map He.DefD.val), t.dic.map fun p => some (He.keysIn w.params (p.2.map (·.1))))
def SaysX (t : Tb) (gl : List Str) (fn : List He.DefD) (w : World) (K : PySem.W.Frag) : Prop := obsX t gl fn K = valX t fn w
def obsXG (n : Nat) (t : Tb) (gl : List Str) (fn : List He.DefD) (g : Addr → Option Obj) : AlX := obsX t gl fn (He.frG g (He.asD g n))
def hookX (n : Nat) (t : Tb) (gl : List Str) (fn : List He.DefD) : PySem.W.Hook where
  α := AlX
  obs := fun s => obsXG n t gl fn s.heap.get?
  val := fun w => valX t fn w
  says := fun w h => ∃ K : PySem.W.Frag, K.In h ∧ SaysX t gl fn w K
  of := fun _ _ e => ⟨_, He.frG_in, e⟩
  keeps := fun _ _ _ ⟨K, hK, c⟩ k => ⟨K, PySem.W.Frag.In.keeps hK k, c⟩
def obX (n : Nat) (t : Tb) (gl : List Str) (fn : List He.DefD) (s : PySem.W.SharedT) : AlX := obsXG n t gl fn (HandSHeadRun.getT s)
theorem obX_eq {n : Nat} {t : Tb} {gl : List Str} {fn : List He.DefD} (s : PySem.W.SharedT) : obX n t gl fn s = (hookX n t gl fn).obs s.abs := by
  have e : HandSHeadRun.getT s = s.abs.heap.get? := funext fun a => HandSHeadRun.getT_eq s a
  unfold obX
  rw [e] <;> rfl
section
variable {w : World} {t : Tb} {gl : List Str} {fn : List He.DefD} {K : PySem.W.Frag}
theorem SaysX.tb (c : SaysX t gl fn w K) : t.ok gl K = true := (He.ba (show (t.ok gl K && fn.all fun d => d.ok K) = true from congrArg (fun z : AlX => z.1.1) c)).1
theorem SaysX.def_ (c : SaysX t gl fn w K) (i : Nat) {d : He.DefD} (h : fn[i]? = some d := by rfl) : ∃ fd, FunD K d.name d.qual d.params d.body d.scope (d.dvs K) (d.kws K) (He.fAd K d.at_) fd := by
  have c2 := (He.ba (show (t.ok gl K && fn.all fun d => d.ok K) = true from congrArg (fun z : AlX => z.1.1) c)).2
  have e : fn.map (fun d => He.fnW K d.at_) = fn.map He.DefD.val := congrArg (fun z : AlX => z.1.2) c
  have e2 : (fn.map fun d => He.fnW K d.at_)[i]? = (fn.map He.DefD.val)[i]? := by rw [e]
  rw [List.getElem?_map, List.getElem?_map, h] at e2
  exact He.DefD.funD (Option.some.inj e2) (List.all_eq_true.mp c2 d (List.mem_of_getElem? h))
theorem SaysX.kd (c : SaysX t gl fn w K) : ∀ p ∈ t.dic, ∃ es n, KDict K w (He.ga K p.1) es n := fun p hp => by
  have e : t.dic.map (fun p => He.dicW K (He.ga K p.1)) = t.dic.map fun p => some (He.keysIn w.params (p.2.map (·.1))) := congrArg (fun z : AlX => z.2) c
  exact He.dicW_ok (List.map_inj_left.mp e p hp)
end
/-- a def of the top, of no defaults; at another name of the module -/
def dA (a x : Str) (st : Stmt) : He.DefD := ⟨(a, none), x, x, defArgs st, defBody st, defScope st, [], []⟩
def dD (x : Str) (st : Stmt) : He.DefD := ⟨(x, none), x, x, defArgs st, defBody st, defScope st, [], []⟩
/-- a def stands at its name and keeps its promise -/
theorem cal_ofA {P : Program} {w : World} {K : PySem.W.Frag} {mg : Str → Option Value} {base : Heap} {t : Tb} {gl : List Str} {fn : List He.DefD} {fs : List (Str × (Nat × Fn))} {k n : Nat} {x a : Str} {st : Stmt} {N ps : List Str} (c : SaysX t gl fn w K) (T : TbOk w K mg t gl) (i : Nat)
    (h : fn[i]? = some (dA a x st)) (hg : a ∈ gl) (S : FnScope N ps (defScope st)) (hb : ∀ fd, FunD K x x (defArgs st) (defBody st) (defScope st) [] [] (He.ga K a) fd → Binds K fd ps []) (C : Cals P w K mg base k fs) (f : Fn)
    (hf : runF (cSs n (defSC N (defScope st) (t.tab fs) k) (defBody st)) ps.length N.length = f) : Cal P w K mg base (k + 1) a ps.length f := by
  obtain ⟨fd, F⟩ := c.def_ i h
  have F' : FunD K x x (defArgs st) (defBody st) (defScope st) [] [] (He.ga K a) fd := F
  refine ⟨_, fd, ps, T.glo a hg, F.kp, hb fd F', ?_, rfl⟩
  rw [← hf]
  exact def_ok F' S (tab_ok T C)
theorem cal_of {P : Program} {w : World} {K : PySem.W.Frag} {mg : Str → Option Value} {base : Heap} {t : Tb} {gl : List Str} {fn : List He.DefD} {fs : List (Str × (Nat × Fn))} {k n : Nat} {x : Str} {st : Stmt} {N ps : List Str} (c : SaysX t gl fn w K) (T : TbOk w K mg t gl) (i : Nat)
    (h : fn[i]? = some (dD x st)) (hg : x ∈ gl) (S : FnScope N ps (defScope st)) (hb : ∀ fd, FunD K x x (defArgs st) (defBody st) (defScope st) [] [] (He.ga K x) fd → Binds K fd ps []) (C : Cals P w K mg base k fs) (f : Fn)
    (hf : runF (cSs n (defSC N (defScope st) (t.tab fs) k) (defBody st)) ps.length N.length = f) : Cal P w K mg base (k + 1) x ps.length f := cal_ofA c T i h hg S hb C f hf
/-- a def that calls itself, at the end of its levels -/
def noneF : Fn := fun _ _ => .stuck
theorem cal_none {P : Program} {w : World} {K : PySem.W.Frag} {mg : Str → Option Value} {base : Heap} {t : Tb} {gl : List Str} {fn : List He.DefD} {k : Nat} {x : Str} {st : Stmt} {ps : List Str} (c : SaysX t gl fn w K) (T : TbOk w K mg t gl) (i : Nat)
    (h : fn[i]? = some (dD x st)) (hg : x ∈ gl) (hb : ∀ fd, FunD K x x (defArgs st) (defBody st) (defScope st) [] [] (He.ga K x) fd → Binds K fd ps []) : Cal P w K mg base k x ps.length noneF := by
  obtain ⟨fd, F⟩ := c.def_ i h
  have F' : FunD K x x (defArgs st) (defBody st) (defScope st) [] [] (He.ga K x) fd := F
  exact ⟨_, fd, ps, T.glo x hg, F.kp, hb fd F', ⟨fun vs H Q E h => h.1, fun A outer s H args us vs Q E _ _ _ _ ⟨_, _, _, _, _, _, p⟩ => p.elim⟩, rfl⟩
theorem Cal.mono {P : Program} {w : World} {K : PySem.W.Frag} {mg : Str → Option Value} {base : Heap} {j k n : Nat} {x : Str} {f : Fn} (c : Cal P w K mg base j x n f) (h : j ≤ k) : Cal P w K mg base k x n f := by
  obtain ⟨a, fd, ps, h1, h2, h3, h4, h5⟩ := c
  exact ⟨a, fd, ps, h1, h2, h3, h4.mono h, h5⟩
/-- the law's def -/
structure LawOk (P : Program) (w : World) (K : PySem.W.Frag) (mg : Str → Option Value) (k : Nat) (f : Fn) : Prop where
  at_ : mg "law" = some (.ref (He.ga K "law"))
  ok : ∃ fd : FuncData, (∀ (s : Shared) (v : Value), BindsTo s fd ⟨[v], []⟩ [("script", v)]) ∧ ∀ base : Heap, K.In base → base.Ns mainGlobals mg → FnOk P w K mg base (L2.CX P w) k (He.ga K "law") fd ["script"] (spD ⟨K, none⟩ 1 f)
theorem law_of {P : Program} {w : World} {K : PySem.W.Frag} {mg : Str → Option Value} {t : Tb} {gl : List Str} {fn : List He.DefD} {fs : List (Str × (Nat × Fn))} {k : Nat} {st : Stmt} {N : List Str} (c : SaysX t gl fn w K) (T : TbOk w K mg t gl) (i : Nat)
    (h : fn[i]? = some (dD "law" st)) (hg : ("law" : Str) ∈ gl) (S : FnScope N ["script"] (defScope st)) (hb : ∀ fd, FunD K "law" "law" (defArgs st) (defBody st) (defScope st) [] [] (He.ga K "law") fd → ∀ (s : Shared) (us : List Value), us.length = 1 → BindsTo s fd ⟨us, []⟩ ((["script"] : List Str).zip us))
    (C : ∀ base : Heap, Cals P w K mg base k fs) (f : Fn) (hf : runF (cSs 400 (defSC N (defScope st) (t.tab fs) k) (defBody st)) 1 N.length = f) : LawOk P w K mg (k + 1) f := by
  obtain ⟨fd, F⟩ := c.def_ i h
  have F' : FunD K "law" "law" (defArgs st) (defBody st) (defScope st) [] [] (He.ga K "law") fd := F
  refine ⟨T.glo _ hg, fd, fun s v => hb fd F' s [v] rfl, fun base _ _ => ?_⟩
  rw [← hf]
  exact def_ok F' S (tab_ok T (C base))
theorem start_at {K : PySem.W.Frag} {H : Hp} {a : Addr} {ns : List Int} (hO : Only H) (hS : SqL K H a (ns.map V.int)) : FrzL K H a (ns.map V.int) := by
  rcases hS with (h | h) | h
  · rcases hO a with e | ⟨o, xs, e⟩
    · rw [h] at e; cases e
    · rw [h] at e; cases e
  · exact .inl h
  · exact .inr h
theorem law_end {l : PySem.W.OpenLaw} {k n : Nat} {q : Program} {loose : List Str} {XP : (Str → Option Value) → Heap → Prop} {d : DefRec} {t : Tb} {gl : List Str} {fn : List He.DefD} {f : Fn} (hn : l.most = some 63) (hdf : d.params.defaults = []) (hr : Room k callerA) (hd : d.name = "law")
    (F : ∀ (w : World) (K : PySem.W.Frag) (mg : Str → Option Value), SaysX t gl fn w K → TbOk w K mg t gl → LawOk l.prog w K mg k f)
    (pure : ∀ s : List Int, s.length ≤ 63 → ∃ h, f [.frl (s.map .int)] ⟨[], 0⟩ = .ok (.bl true) h) : PySem.W.WalkO q loose XP (hookX n t gl fn).says l.row.toRowW d [] (fun f vs => PySem.call f vs) := by
  refine Att.attach_call hn hdf fun w s0 s1 mg mb fa o pm cd doc a vs ns G Y ho hod hcd hmg hobj hints hlen hg => ?_
  obtain ⟨K, KX, c⟩ := Y
  have T : TbOk w K mg t gl := Tb.ok_is KX G.T.g c.tb c.kd
  obtain ⟨e1, fd, hb, hF⟩ := F w K mg c T
  have e2 : fa = He.ga K "law" := by
    rw [hd, e1] at hmg
    cases hmg; rfl
  rw [← e2] at hF
  refine law_call (x := "script") KX G.T.g G.T.b G.T.builtins G.T.nolimit hg hobj hints (Nat.le_trans hlen (by decide)) hr (fun base h1 h2 => hF base h1 h2) hb (fun H hO hS => ?_) fun H e s' z => ?_
  · obtain ⟨h', p⟩ := pure ns hlen
    refine ⟨rfl, [], [.frl (ns.map .int)], ⟨[], 0⟩, ⟨⟨rfl, List.nodup_nil, fun n c a h => by cases h⟩, ⟨Nat.le_refl _, fun n c h => by cases h⟩⟩, ⟨?_, ?_⟩, ?_⟩
    · unfold IsL
      refine ⟨_, _, rfl, ?_, by unfold IsL; rfl⟩
      unfold Is
      exact ⟨a, _, rfl, start_at hO hS, isL_ints ns⟩
    · show max (mrL (ns.map D.int)) 0 ≤ 0
      rw [mrL_ints]; exact Nat.le_refl _
    · rw [p]
      intro ρ' v H' _ r
      exact r.1.bl
  · obtain ⟨_, _, _, _, _, z⟩ := z
    exact z.2.2.2.2.2.2.2
end Dy

/-! Reckoning with the combinators: what they give, step by step. -/
namespace Dy
open PySem PySem.Spec PyProof.Rows L2
/-! ### results, taken on -/
section
variable {α β : Type} {e e1 : Env} {h h1 : PH} {a b u : SM} {c : Str} {d x y : D} {ds : List D} {s : Str} {n i j : Nat}
def Out.seq (o : Out) (b : SM) : Out := match o with
  | .nxt e1 h1 => b e1 h1
  | .ret d h1 => .ret d h1
  | .brk e1 h1 => .brk e1 h1
  | .cnt e1 h1 => .cnt e1 h1
  | .exc c e1 h1 => .exc c e1 h1
  | .stuck => .stuck
@[simp] theorem seqS_ap : seqS a b e h = (a e h).seq b := rfl
theorem Out.seq_cg {o o' : Out} (q : o = o') : o.seq b = o'.seq b := by rw [q]
@[simp] theorem seq_nxt : (Out.nxt e h).seq b = b e h := rfl
@[simp] theorem seq_ret : (Out.ret d h).seq b = .ret d h := rfl
@[simp] theorem seq_brk : (Out.brk e h).seq b = .brk e h := rfl
@[simp] theorem seq_cnt : (Out.cnt e h).seq b = .cnt e h := rfl
@[simp] theorem seq_exc : (Out.exc c e h).seq b = .exc c e h := rfl
theorem Res.bind_cg {r r' : Res α} {f : α → PH → Res β} (q : r = r') : r.bind f = r'.bind f := by rw [q]
theorem Res.bindS_cg {r r' : Res α} {f : α → PH → Out} (q : r = r') : r.bindS e f = r'.bindS e f := by rw [q]
@[simp] theorem bind_ok {v : α} {f : α → PH → Res β} : (Res.ok v h).bind f = f v h := rfl
@[simp] theorem bind_exc {f : α → PH → Res β} : (Res.exc c h).bind f = .exc c h := rfl
theorem bindS_ok {v : α} {f : α → PH → Out} : (Res.ok v h).bindS e f = f v h := rfl
theorem bindS_exc {f : α → PH → Out} : (Res.exc c h : Res α).bindS e f = .exc c e h := rfl
def Res.ifS (r : Res Bool) (e : Env) (a b : SM) : Out := r.bindS e fun c h1 => match c with
  | true => a e h1
  | false => b e h1
@[simp] theorem ifS_ap {t : TM} : ifS t a b e h = (t e h).ifS e a b := rfl
theorem Res.ifS_cg {r r' : Res Bool} (q : r = r') : r.ifS e a b = r'.ifS e a b := by rw [q]
@[simp] theorem ifS_true : (Res.ok true h).ifS e a b = a e h := rfl
@[simp] theorem ifS_false : (Res.ok false h).ifS e a b = b e h := rfl
@[simp] theorem ifS_exc : (Res.exc c h).ifS e a b = .exc c e h := rfl
/-- tests -/
def Res.orR (r : Res Bool) (e : Env) (u : TM) : Res Bool := r.bind fun b h1 => match b with
  | true => .ok true h1
  | false => u e h1
def Res.andR (r : Res Bool) (e : Env) (u : TM) : Res Bool := r.bind fun b h1 => match b with
  | true => u e h1
  | false => .ok false h1
@[simp] theorem orT_ap {t u : TM} : orT t u e h = (t e h).orR e u := rfl
@[simp] theorem andT_ap {t u : TM} : andT t u e h = (t e h).andR e u := rfl
theorem Res.orR_cg {r r' : Res Bool} {u : TM} (q : r = r') : r.orR e u = r'.orR e u := by rw [q]
theorem Res.andR_cg {r r' : Res Bool} {u : TM} (q : r = r') : r.andR e u = r'.andR e u := by rw [q]
def pick {α : Type} (b : Bool) (x y : Res α) : Res α := match b with
  | true => x
  | false => y
@[simp] theorem orR_ok {b : Bool} {u : TM} : (Res.ok b h).orR e u = pick b (.ok true h) (u e h) := by cases b <;> rfl
@[simp] theorem andR_ok {b : Bool} {u : TM} : (Res.ok b h).andR e u = pick b (u e h) (.ok false h) := by cases b <;> rfl
@[simp] theorem pick_true {x y : Res α} : pick true x y = x := rfl
@[simp] theorem pick_false {x y : Res α} : pick false x y = y := rfl
@[simp] theorem pick_or {b k : Bool} : pick b (.ok true h) (.ok k h) = .ok (b || k) h := by cases b <;> rfl
@[simp] theorem pick_and {b k : Bool} : pick b (.ok k h) (.ok false h) = .ok (b && k) h := by cases b <;> rfl
@[simp] theorem pick_int {b : Bool} {i j : Int} : pick b (.ok (D.int i) h) (.ok (D.int j) h) = .ok (D.int (bif b then i else j)) h := by cases b <;> rfl
@[simp] theorem pick_bl {b : Bool} {i j : Bool} : pick b (.ok (D.bl i) h) (.ok (D.bl j) h) = .ok (D.bl (bif b then i else j)) h := by cases b <;> rfl
@[simp] theorem pick_str {b : Bool} {i j : Str} : pick b (.ok (D.str i) h) (.ok (D.str j) h) = .ok (D.str (bif b then i else j)) h := by cases b <;> rfl
def Res.tb (r : Res D) : Res Bool := r.bind fun d h1 => match d with
  | .bl b => .ok b h1
  | _ => .stuck
@[simp] theorem tbT_ap {m : EM} : tbT m e h = (m e h).tb := rfl
@[simp] theorem tb_ok {b : Bool} : (Res.ok (.bl b) h).tb = .ok b h := rfl
def Res.tr (r : Res D) : Res Bool := r.bind fun d h1 => match truth d h1 with
  | some b => .ok b h1
  | none => .stuck
@[simp] theorem trT_ap {m : EM} : trT m e h = (m e h).tr := rfl
@[simp] theorem tr_bl {b : Bool} : (Res.ok (.bl b) h).tr = .ok b h := rfl
@[simp] theorem tr_int {b : Int} : (Res.ok (.int b) h).tr = .ok (b != 0) h := rfl
theorem notT_ap {t : TM} : notT t e h = (t e h).bind fun b h1 => .ok (!b) h1 := rfl
def Res.andD (r : Res D) (e : Env) (b : EM) : Res D := r.bind fun d h1 => match truth d h1 with
  | some true => b e h1
  | some false => .ok d h1
  | none => .stuck
def Res.orD (r : Res D) (e : Env) (b : EM) : Res D := r.bind fun d h1 => match truth d h1 with
  | some true => .ok d h1
  | some false => b e h1
  | none => .stuck
@[simp] theorem andE_ap {x y : EM} : andE x y e h = (x e h).andD e y := rfl
@[simp] theorem orE_ap {x y : EM} : orE x y e h = (x e h).orD e y := rfl
theorem Res.andD_cg {r r' : Res D} {y : EM} (q : r = r') : r.andD e y = r'.andD e y := by rw [q]
theorem Res.orD_cg {r r' : Res D} {y : EM} (q : r = r') : r.orD e y = r'.orD e y := by rw [q]
@[simp] theorem andD_bl {b : Bool} {y : EM} : (Res.ok (.bl b) h).andD e y = pick b (y e h) (.ok (.bl false) h) := by cases b <;> rfl
@[simp] theorem orD_bl {b : Bool} {y : EM} : (Res.ok (.bl b) h).orD e y = pick b (.ok (.bl true) h) (y e h) := by cases b <;> rfl
def Res.ifE (r : Res Bool) (e : Env) (a b : EM) : Res D := r.bind fun c h1 => match c with
  | true => a e h1
  | false => b e h1
@[simp] theorem ifE_ap {t : TM} {x y : EM} : ifE t x y e h = (t e h).ifE e x y := rfl
theorem Res.ifE_cg {r r' : Res Bool} {x y : EM} (q : r = r') : r.ifE e x y = r'.ifE e x y := by rw [q]
@[simp] theorem ifE_ok {b : Bool} {x y : EM} : (Res.ok b h).ifE e x y = pick b (x e h) (y e h) := by cases b <;> rfl
/-! ### expressions -/
@[simp] theorem cE_ap : cE d e h = .ok d h := rfl
theorem vE_0 {o : Option D} {r : Env} : vE 0 (o :: r) h = (match o with | some d => .ok d h | none => .stuck) := by cases o <;> rfl
theorem vE_at (q : e[i]? = some (some d)) : vE i e h = .ok d h := by unfold vE; rw [q]
@[simp] theorem u1E_ap {f : D → PH → Res D} {x : EM} : u1E f x e h = (x e h).bind f := rfl
theorem b2E_ap {f : D → D → PH → Res D} {x y : EM} : b2E f x y e h = (x e h).bind fun v h1 => (y e h1).bind fun w h2 => f v w h2 := rfl
@[simp] theorem nA_ap {f : List D → PH → Res D} {x : AM} : nA f x e h = (x e h).bind f := rfl
@[simp] theorem nilA_ap : nilA e h = .ok [] h := rfl
theorem consA_ap {x : EM} {y : AM} : consA x y e h = (x e h).bind fun v h1 => (y e h1).bind fun w h2 => .ok (v :: w) h2 := rfl
def Res.b2 (r : Res D) (f : D → D → PH → Res D) (y : EM) (e : Env) : Res D := r.bind fun v h1 => (y e h1).bind (f v)
@[simp] theorem b2E_fr {f : D → D → PH → Res D} {x y : EM} : b2E f x y e h = (x e h).b2 f y e := rfl
@[simp] theorem b2_ok {f : D → D → PH → Res D} {y : EM} : (Res.ok d h).b2 f y e = (y e h).bind (f d) := rfl
@[simp] theorem b2_exc {f : D → D → PH → Res D} {y : EM} : (Res.exc c h).b2 f y e = .exc c h := rfl
def Res.c1 (r : Res D) (y : AM) (e : Env) : Res (List D) := r.bind fun v h1 => (y e h1).bind fun w h2 => .ok (v :: w) h2
def Res.c2 (r : Res (List D)) (v : D) : Res (List D) := r.bind fun w h2 => .ok (v :: w) h2
@[simp] theorem consA_fr {x : EM} {y : AM} : consA x y e h = (x e h).c1 y e := rfl
@[simp] theorem c1_ok {y : AM} : (Res.ok d h).c1 y e = (y e h).c2 d := rfl
@[simp] theorem c1_exc {y : AM} : (Res.exc c h).c1 y e = .exc c h := rfl
@[simp] theorem c2_ok : (Res.ok ds h).c2 d = .ok (d :: ds) h := rfl
@[simp] theorem c2_exc : (Res.exc c h).c2 d = .exc c h := rfl
@[simp] theorem tupF_ap (q : ds.length ≤ 16777216) : tupF ds h = .ok (.tup ds) h := by
  unfold tupF
  rw [if_pos q]
@[simp] theorem f1_ap {f : D → PH → Res D} : f1 f [d] h = f d h := rfl
@[simp] theorem f2_ap {f : D → D → PH → Res D} : f2 f [x, y] h = f x y h := rfl
def Res.ch (r : Res D) (g : D → D → PH → Res D) (y : D) (e : Env) (c : EM) : Res D := r.bind fun z h3 => match z with
  | .bl true => (c e h3).bind fun w h4 => g y w h4
  | .bl false => .ok (.bl false) h3
  | _ => .stuck
theorem chE_ap {f g : D → D → PH → Res D} {k l m : EM} : chE f g k l m e h = (k e h).bind fun v h1 => (l e h1).bind fun w h2 => (f v w h2).ch g w e m := rfl
theorem Res.ch_cg {r r' : Res D} {g : D → D → PH → Res D} {m : EM} (q : r = r') : r.ch g y e m = r'.ch g y e m := by rw [q]
def Res.ch1 (r : Res D) (f g : D → D → PH → Res D) (l m : EM) (e : Env) : Res D := r.bind fun v h1 => (l e h1).bind fun w h2 => (f v w h2).ch g w e m
def Res.ch2 (r : Res D) (f g : D → D → PH → Res D) (v : D) (m : EM) (e : Env) : Res D := r.bind fun w h2 => (f v w h2).ch g w e m
@[simp] theorem chE_fr {f g : D → D → PH → Res D} {k l m : EM} : chE f g k l m e h = (k e h).ch1 f g l m e := rfl
@[simp] theorem ch1_ok {f g : D → D → PH → Res D} {l m : EM} : (Res.ok d h).ch1 f g l m e = (l e h).ch2 f g d m e := rfl
@[simp] theorem ch2_ok {f g : D → D → PH → Res D} {m : EM} : (Res.ok y h).ch2 f g d m e = (f d y h).ch g y e m := rfl
@[simp] theorem ch_bl {b : Bool} {g : D → D → PH → Res D} {m : EM} : (Res.ok (.bl b) h).ch g y e m = pick b ((m e h).bind (g y)) (.ok (.bl false) h) := by cases b <;> rfl
def Res.c31 (r : Res D) (f g k : D → D → PH → Res D) (m n o : EM) (e : Env) : Res D := r.bind fun x h1 => (m e h1).bind fun y h2 => (f x y h2).bind fun z h3 => match z with
  | .bl true => (n e h3).bind fun w h4 => (g y w h4).ch k w e o
  | .bl false => .ok (.bl false) h3
  | _ => .stuck
def Res.c32 (r : Res D) (f g k : D → D → PH → Res D) (x : D) (n o : EM) (e : Env) : Res D := r.bind fun y h2 => (f x y h2).bind fun z h3 => match z with
  | .bl true => (n e h3).bind fun w h4 => (g y w h4).ch k w e o
  | .bl false => .ok (.bl false) h3
  | _ => .stuck
def Res.c33 (r : Res D) (g k : D → D → PH → Res D) (y : D) (n o : EM) (e : Env) : Res D := r.bind fun z h3 => match z with
  | .bl true => (n e h3).bind fun w h4 => (g y w h4).ch k w e o
  | .bl false => .ok (.bl false) h3
  | _ => .stuck
def Res.c34 (r : Res D) (g k : D → D → PH → Res D) (y : D) (o : EM) (e : Env) : Res D := r.bind fun w h4 => (g y w h4).ch k w e o
@[simp] theorem ch3E_fr {f g k : D → D → PH → Res D} {l m n o : EM} : ch3E f g k l m n o e h = (l e h).c31 f g k m n o e := by
  unfold ch3E Res.c31 Res.ch
  congr 1
@[simp] theorem c31_ok {f g k : D → D → PH → Res D} {m n o : EM} : (Res.ok d h).c31 f g k m n o e = (m e h).c32 f g k d n o e := rfl
@[simp] theorem c32_ok {f g k : D → D → PH → Res D} {n o : EM} : (Res.ok y h).c32 f g k d n o e = (f d y h).c33 g k y n o e := rfl
@[simp] theorem c33_bl {b : Bool} {g k : D → D → PH → Res D} {n o : EM} : (Res.ok (.bl b) h).c33 g k y n o e = pick b ((n e h).c34 g k y o e) (.ok (.bl false) h) := by cases b <;> rfl
@[simp] theorem c34_ok {g k : D → D → PH → Res D} {o : EM} : (Res.ok d h).c34 g k y o e = (g y d h).ch k d e o := rfl
/-! ### dicts of the module -/
theorem dIx_ap {x z : Str} {l : List (Str × D)} {d : D} (q : l.lookup z = some d) : dIx x l (.glb x) (.str z) h = .ok d h := by
  show (if x = x then (match l.lookup z with | some d => Res.ok d h | none => .stuck) else .stuck) = _
  rw [if_pos rfl, q]
@[simp] theorem dIn_ap {x z : Str} {l : List (Str × D)} : dIn x l (.str z) (.glb x) h = .ok (.bl (l.lookup z).isSome) h := by
  show (if x = x then _ else _) = _
  rw [if_pos rfl]
@[simp] theorem dNotIn_ap {x z : Str} {l : List (Str × D)} : dNotIn x l (.str z) (.glb x) h = .ok (.bl (!(l.lookup z).isSome)) h := by
  show (if x = x then _ else _) = _
  rw [if_pos rfl]
/-! ### numbers -/
variable {k l : Int}
@[simp] theorem addF_int : addF (.int k) (.int l) h = .ok (.int (k + l)) h := rfl
@[simp] theorem subF_int : subF (.int k) (.int l) h = .ok (.int (k - l)) h := rfl
@[simp] theorem negF_int : negF (.int k) h = .ok (.int (-k)) h := rfl
@[simp] theorem ltF_int : ltF (.int k) (.int l) h = .ok (.bl (decide (k < l))) h := rfl
@[simp] theorem leF_int : leF (.int k) (.int l) h = .ok (.bl (decide (k ≤ l))) h := rfl
@[simp] theorem gtF_int : gtF (.int k) (.int l) h = .ok (.bl (decide (l < k))) h := rfl
@[simp] theorem geF_int : geF (.int k) (.int l) h = .ok (.bl (decide (l ≤ k))) h := rfl
@[simp] theorem eqF_int : eqF (.int k) (.int l) h = .ok (.bl (decide (k = l))) h := rfl
@[simp] theorem neF_int : neF (.int k) (.int l) h = .ok (.bl (!decide (k = l))) h := rfl
@[simp] theorem eqF_str {k l : Str} : eqF (.str k) (.str l) h = .ok (.bl (decide (k = l))) h := rfl
@[simp] theorem neF_str {k l : Str} : neF (.str k) (.str l) h = .ok (.bl (!decide (k = l))) h := rfl
@[simp] theorem eqF_bl {k l : Bool} : eqF (.bl k) (.bl l) h = .ok (.bl (decide (k = l))) h := rfl
@[simp] theorem neF_bl {k l : Bool} : neF (.bl k) (.bl l) h = .ok (.bl (!decide (k = l))) h := rfl
@[simp] theorem isF_non : isF d .non h = .ok (.bl (isNonD d)) h := rfl
@[simp] theorem isNotF_non : isNotF d .non h = .ok (.bl (!isNonD d)) h := rfl
@[simp] theorem intF_int : intF (.int k) h = .ok (.int k) h := rfl
@[simp] theorem intF_bl {b : Bool} : intF (.bl b) h = .ok (.int (if b then 1 else 0)) h := rfl
@[simp] theorem absF_int : absF (.int k) h = .ok (.int (if k < 0 then -k else k)) h := rfl
@[simp] theorem max2F_int : max2F (.int k) (.int l) h = .ok (.int (if l > k then l else k)) h := rfl
@[simp] theorem min2F_int : min2F (.int k) (.int l) h = .ok (.int (if l < k then l else k)) h := rfl
theorem log2_small {m : Nat} (q : l.natAbs < 2 ^ m) (z : 0 < m) : l.natAbs.log2 < m := by
  by_cases e : l.natAbs = 0
  · rw [e]; exact z
  · exact (Nat.log2_lt e).mpr q
/-- numbers of at most 4000 bits: small enough for all that is asked of sizes -/
def sm (i : Int) : Prop := i.natAbs < 2 ^ 4000
@[simp] theorem modF_int (q : 0 < l) (z : sm l) : modF (.int k) (.int l) h = .ok (.int (k % l)) h := by
  have : l.natAbs.log2 < 4000 := log2_small z (by omega)
  unfold modF stepI
  simp [q]
@[simp] theorem fdivF_int (q : 0 < l) (z : sm l) : fdivF (.int k) (.int l) h = .ok (.int (k / l)) h := by
  have : l.natAbs.log2 < 4000 := log2_small z (by omega)
  have c : 0 < l ∧ l.natAbs.log2 < 9000 := ⟨q, by omega⟩
  unfold fdivF stepI
  simp only [if_pos c]
@[simp] theorem mulF_int (q : sm k) (z : sm l) : mulF (.int k) (.int l) h = .ok (.int (k * l)) h := by
  have h1 : l.natAbs.log2 < 4000 := log2_small z (by omega)
  have h2 : k.natAbs.log2 < 4000 := log2_small q (by omega)
  have c : bitsOk k l = true := by unfold bitsOk; exact Nat.ble_eq_true_of_le (by omega)
  show iMul (.int k) (.int l) h = _
  unfold iMul stepI
  simp only [if_pos c]
@[simp] theorem powF_int (q : 0 ≤ l ∧ l ≤ 1000000 ∧ k.natAbs < 2 ^ 64) : powF (.int k) (.int l) h = .ok (.int (k ^ l.toNat)) h := by
  have q : 0 ≤ l ∧ powOk k l = true := ⟨q.1, (powOk_iff q.1).mpr q.2⟩
  unfold powF stepI
  simp only [if_pos q]
theorem shlF_big (q : 0 ≤ l ∧ l ≤ 1000000) (z : sm k) : shlF (.int k) (.int l) h = .ok (.int (k * 2 ^ l.toNat)) h := by
  have h2 : k.natAbs.log2 < 4000 := log2_small z (by omega)
  have c : 0 ≤ l ∧ shlOk k l = true := ⟨q.1, (shlOk_iff q.1).mpr ⟨q.2, by omega⟩⟩
  unfold shlF stepI
  simp only [if_pos c]
@[simp] theorem shlF_int (q : 0 ≤ l ∧ l ≤ 1000000 ∧ k.natAbs < 2 ^ 64) : shlF (.int k) (.int l) h = .ok (.int (k * 2 ^ l.toNat)) h :=
  shlF_big ⟨q.1, q.2.1⟩ (Nat.lt_of_lt_of_le q.2.2 (Nat.pow_le_pow_right (by omega) (by omega)))
@[simp] theorem shrF_int (q : 0 ≤ l) : shrF (.int k) (.int l) h = .ok (.int (k / 2 ^ l.toNat)) h := by
  unfold shrF stepI
  simp only [if_pos q]
theorem sm_of {i : Int} {n : Nat} (q : i.natAbs < 2 ^ n) (z : n ≤ 4000) : sm i := Nat.lt_of_lt_of_le q (Nat.pow_le_pow_right (by omega) z)
@[simp] theorem sm_lt {i : Int} (q : -18446744073709551616 < i) (z : i < 18446744073709551616) : sm i := sm_of (n := 64) (by omega) (by omega)
/-! ### statements -/
@[simp] theorem nextS_ap : nextS e h = .nxt e h := rfl
@[simp] theorem brkS_ap : brkS e h = .brk e h := rfl
@[simp] theorem cntS_ap : cntS e h = .cnt e h := rfl
theorem retS_ap {m : EM} : retS m e h = (m e h).bindS e fun d h1 => .ret d h1 := rfl
@[simp] theorem retNS_ap : retNS e h = .ret .non h := rfl
@[simp] theorem raiseS_ap : raiseS c e h = .exc c e h := rfl
theorem exprS_ap {m : EM} : exprS m e h = (m e h).bindS e fun _ h1 => .nxt e h1 := rfl
def asgO (t : Tgt) (d : D) (e : Env) (h : PH) : Out := match tgt t d e h with
  | some e1 => .nxt e1 h
  | none => .stuck
theorem asgS_ap {m : EM} {t : Tgt} : asgS m t e h = (m e h).bindS e fun d h1 => asgO t d e h1 := rfl
@[simp] theorem asgO_one : asgO (.one i) d e h = .nxt (e.set i (some d)) h := rfl
def Res.rt (r : Res D) (e : Env) : Out := r.bindS e fun d h1 => .ret d h1
@[simp] theorem retS_fr {m : EM} : retS m e h = (m e h).rt e := rfl
@[simp] theorem rt_ok : (Res.ok d h).rt e = .ret d h := rfl
@[simp] theorem rt_exc : (Res.exc c h).rt e = .exc c e h := rfl
def Res.ex (r : Res D) (e : Env) : Out := r.bindS e fun _ h1 => .nxt e h1
@[simp] theorem exprS_fr {m : EM} : exprS m e h = (m e h).ex e := rfl
@[simp] theorem ex_ok : (Res.ok d h).ex e = .nxt e h := rfl
@[simp] theorem ex_exc : (Res.exc c h).ex e = .exc c e h := rfl
def Res.asg (r : Res D) (t : Tgt) (e : Env) : Out := r.bindS e fun d h1 => asgO t d e h1
@[simp] theorem asgS_fr {m : EM} {t : Tgt} : asgS m t e h = (m e h).asg t e := rfl
@[simp] theorem asg_ok {t : Tgt} : (Res.ok d h).asg t e = asgO t d e h := rfl
@[simp] theorem asg_exc {t : Tgt} : (Res.exc c h).asg t e = .exc c e h := rfl
@[simp] theorem tgt_one : tgt (.one i) d e h = some (e.set i (some d)) := rfl
@[simp] theorem tgt_tup {is : List Nat} (q : ds.length = is.length) : tgt (.many is) (.tup ds) e h = some (setAll is ds e) := by
  show (if ds.length = is.length then _ else none) = _
  rw [if_pos q]
@[simp] theorem asgO_tup {is : List Nat} (q : ds.length = is.length) : asgO (.many is) (.tup ds) e h = .nxt (setAll is ds e) h := by
  unfold asgO
  rw [tgt_tup q]
theorem parS_ap {m : AM} : parS m i j e h = (m e h).bindS e fun vs h1 => match vs with
  | [v, w] => .nxt ((e.set i (some v)).set j (some w)) h1
  | _ => .stuck := rfl
def setO (x k d : D) (e : Env) (h : PH) : Out := match setIx x k d h with
  | some h4 => .nxt e h4
  | none => .stuck
theorem sixS_ap {m o x : EM} : sixS m o x e h = (m e h).bindS e fun d h1 => (o e h1).bindS e fun v h2 => (x e h2).bindS e fun k h3 => setO v k d e h3 := rfl
def Res.s1 (r : Res D) (o x : EM) (e : Env) : Out := r.bindS e fun d h1 => (o e h1).bindS e fun v h2 => (x e h2).bindS e fun k h3 => setO v k d e h3
def Res.s2 (r : Res D) (d : D) (x : EM) (e : Env) : Out := r.bindS e fun v h2 => (x e h2).bindS e fun k h3 => setO v k d e h3
def Res.s3 (r : Res D) (d v : D) (e : Env) : Out := r.bindS e fun k h3 => setO v k d e h3
@[simp] theorem sixS_fr {m o x : EM} : sixS m o x e h = (m e h).s1 o x e := rfl
@[simp] theorem s1_ok {o x : EM} : (Res.ok d h).s1 o x e = (o e h).s2 d x e := rfl
@[simp] theorem s1_exc {o x : EM} : (Res.exc c h).s1 o x e = .exc c e h := rfl
@[simp] theorem s2_ok {x : EM} : (Res.ok y h).s2 d x e = (x e h).s3 d y e := rfl
@[simp] theorem s3_ok : (Res.ok y h).s3 d x e = setO x y d e h := rfl
def Res.ps (r : Res (List D)) (i j : Nat) (e : Env) : Out := r.bindS e fun vs h1 => match vs with
  | [v, w] => .nxt ((e.set i (some v)).set j (some w)) h1
  | _ => .stuck
@[simp] theorem parS_fr {m : AM} : parS m i j e h = (m e h).ps i j e := rfl
@[simp] theorem ps_ok : (Res.ok [x, y] h).ps i j e = .nxt ((e.set i (some x)).set j (some y)) h := rfl
def Res.nt (r : Res Bool) : Res Bool := r.bind fun b h1 => .ok (!b) h1
@[simp] theorem notT_fr {t : TM} : notT t e h = (t e h).nt := rfl
@[simp] theorem nt_ok {b : Bool} : (Res.ok b h).nt = .ok (!b) h := rfl
@[simp] theorem notF_bl {b : Bool} : notF (.bl b) h = .ok (.bl (!b)) h := rfl
/-! ### calls -/
def Out.fin (o : Out) (l : Nat) : Res D := match o with
  | .nxt _ h1 => finF l .non h1
  | .ret d h1 => finF l d h1
  | .exc c _ h1 => .exc c (h1.cut (max l h1.lim))
  | _ => .stuck
theorem Out.fin_cg {o o' : Out} {l : Nat} (q : o = o') : o.fin l = o'.fin l := by rw [q]
@[simp] theorem runF_ap {np nn : Nat} (q : ds.length = np) : runF b np nn ds h = (b (ds.map some ++ List.replicate (nn - np) none) h).fin h.cs.length := by
  unfold runF
  rw [if_pos q]
  cases b (ds.map some ++ List.replicate (nn - np) none) h <;> rfl
@[simp] theorem fin_nxt {l : Nat} : (Out.nxt e h).fin l = .ok .non (h.cut (max l h.lim)) := by
  show Res.ok D.non (h.cut (max l (max h.lim (D.mr .non)))) = _
  have : max h.lim (D.mr .non) = h.lim := by show max h.lim 0 = _; omega
  rw [this]
@[simp] theorem fin_ret {l : Nat} : (Out.ret d h).fin l = .ok d (h.cut (max l (max h.lim d.mr))) := rfl
@[simp] theorem fin_exc {l : Nat} : (Out.exc c e h).fin l = .exc c (h.cut (max l h.lim)) := rfl
@[simp] theorem callF_ap {f : Fn} (q : ds.length = n) : callF n f ds h = f ds h := by unfold callF; rw [if_pos q]
@[simp] theorem cut_max {m : Nat} : h.cut (max h.cs.length m) = h := by
  unfold PH.cut
  rw [List.take_of_length_le (by omega)]
theorem cut_ge {m : Nat} (q : h.cs.length ≤ m) : h.cut m = h := by
  unfold PH.cut
  rw [List.take_of_length_le q]
/-! ### tries -/
def Out.tryO (o : Out) (v : Option Nat) (sub : Str → Option Bool) (suite : Str → SM) : Out := match o with
  | .exc c e1 h1 => (match sub c with
    | some true => (match v with
      | some i => if i < e1.length then unb v (suite c (e1.set i none) h1) else .stuck
      | none => unb v (suite c e1 h1))
    | some false => .exc c e1 h1
    | none => .stuck)
  | .nxt e1 h1 => .nxt e1 h1
  | .ret d h1 => .ret d h1
  | .brk e1 h1 => .brk e1 h1
  | .cnt e1 h1 => .cnt e1 h1
  | .stuck => .stuck
@[simp] theorem tryS_ap {v : Option Nat} {sub : Str → Option Bool} {suite : Str → SM} : tryS b v sub suite e h = (b e h).tryO v sub suite := by
  unfold tryS Out.tryO
  cases b e h <;> rfl
theorem Out.tryO_cg {o o' : Out} {v : Option Nat} {sub : Str → Option Bool} {suite : Str → SM} (q : o = o') : o.tryO v sub suite = o'.tryO v sub suite := by rw [q]
@[simp] theorem try_nxt {v : Option Nat} {sub : Str → Option Bool} {suite : Str → SM} : (Out.nxt e h).tryO v sub suite = .nxt e h := rfl
@[simp] theorem try_ret {v : Option Nat} {sub : Str → Option Bool} {suite : Str → SM} : (Out.ret d h).tryO v sub suite = .ret d h := rfl
@[simp] theorem try_exc {sub : Str → Option Bool} {suite : Str → SM} (q : sub c = some true) (z : i < e.length) : (Out.exc c e h).tryO (some i) sub suite = unb (some i) (suite c (e.set i none) h) := by
  show (match sub c with
    | some true => if i < e.length then unb (some i) (suite c (e.set i none) h) else .stuck
    | some false => .exc c e h
    | none => .stuck) = _
  rw [q]
  show (if i < e.length then _ else _) = _
  rw [if_pos z]
@[simp] theorem unb_ret {v : Option Nat} : unb v (.ret d h) = .ret d h := rfl
@[simp] theorem unb_nxt {v : Nat} : unb (some v) (.nxt e h) = .nxt (e.set v none) h := rfl
theorem unb_cg {v : Option Nat} {o o' : Out} (q : o = o') : unb v o = unb v o' := by rw [q]
/-! ### lists, tuples -/
theorem ixF_tup (q : atI ds k = some d) : ixF (.tup ds) (.int k) h = .ok d h := by
  show (match atI ds k with | some d => Res.ok d h | none => .stuck) = _
  rw [q]
theorem ixF_frl (q : atI ds k = some d) : ixF (.frl ds) (.int k) h = .ok d h := by
  show (match atI ds k with | some d => Res.ok d h | none => .stuck) = _
  rw [q]
theorem ixF_ref (z : h.cs[n]? = some (.lst ds)) (q : atI ds k = some d) : ixF (.ref n) (.int k) h = .ok d h := by
  have e : itemsS h (.ref n) = some ds := by show (match h.cs[n]? with | some (.lst ds) => some ds | _ => none) = _; rw [z]
  show (match (match itemsS h (.ref n) with | some ds => atI ds k | none => none) with | some d => Res.ok d h | none => .stuck) = _
  rw [e]
  show (match atI ds k with | some d => Res.ok d h | none => .stuck) = _
  rw [q]
@[simp] theorem lenF_tup : lenF (.tup ds) h = .ok (.int ds.length) h := rfl
@[simp] theorem lenF_frl : lenF (.frl ds) h = .ok (.int ds.length) h := rfl
theorem lenF_ref (z : h.cs[n]? = some (.lst ds)) : lenF (.ref n) h = .ok (.int ds.length) h := by
  have e : itemsS h (.ref n) = some ds := by show (match h.cs[n]? with | some (.lst ds) => some ds | _ => none) = _; rw [z]
  show (match itemsS h (.ref n) with | some ds => Res.ok (D.int ds.length) h | none => .stuck) = _
  rw [e]
@[simp] theorem lenF_str (q : s.length ≤ 16777216) : lenF (.str s) h = .ok (.int s.length) h := by
  show (if s.length ≤ 16777216 then _ else _) = _
  rw [if_pos q]
theorem tupleF_ref (z : h.cs[n]? = some (.lst ds)) : tupleF (.ref n) h = .ok (.tup ds) h := by
  have e : itemsS h (.ref n) = some ds := by show (match h.cs[n]? with | some (.lst ds) => some ds | _ => none) = _; rw [z]
  unfold tupleF
  rw [e]
theorem listF_ref (z : h.cs[n]? = some (.lst ds)) : listF (.ref n) h = newL ds h := by
  have e : itemsS h (.ref n) = some ds := by show (match h.cs[n]? with | some (.lst ds) => some ds | _ => none) = _; rw [z]
  show (match itemsS h (.ref n) with | some ds => newL ds h | none => .stuck) = _
  rw [e]
@[simp] theorem tupleF_tup : tupleF (.tup ds) h = .ok (.tup ds) h := rfl
theorem listF_tup : listF (.tup ds) h = newL ds h := rfl
theorem listF_frl : listF (.frl ds) h = newL ds h := rfl
@[simp] theorem lstF_ap (q : ds.length ≤ 16777216) : lstF ds h = .ok (.ref h.cs.length) (h.push (.lst ds)) := by
  unfold lstF
  rw [if_pos q]
theorem newL_ap : newL ds h = .ok (.ref h.cs.length) (h.push (.lst ds)) := rfl
theorem setO_ref (z : h.cs[n]? = some (.lst ds)) (q : ixN ds.length k = some j) : setO (.ref n) (.int k) d e h = .nxt e (h.put n (.lst (ds.set j d))) := by
  have r : refLst h (.ref n) = some (n, ds) := by show (match h.cs[n]? with | some (.lst ds) => some (n, ds) | _ => none) = _; rw [z]
  unfold setO setIx
  rw [r]
  simp only [q]
theorem appF_ref (z : h.cs[n]? = some (.lst ds)) (q : ds.length < 16777216) : appF (.ref n) [d] h = .ok .non (h.put n (.lst (ds ++ [d]))) := by
  have r : refLst h (.ref n) = some (n, ds) := by show (match h.cs[n]? with | some (.lst ds) => some (n, ds) | _ => none) = _; rw [z]
  unfold appF
  rw [r]
  simp only [if_pos q]
theorem atI_nat {xs : List D} {m : Nat} : atI xs ((m : Nat) : Int) = xs[m]? := by
  unfold atI ixN
  rw [if_pos (Int.natCast_nonneg m)]
  by_cases q : (m : Int) < (xs.length : Int)
  · rw [if_pos q]
    show xs[((m : Nat) : Int).toNat]? = _
    simp
  · rw [if_neg q, List.getElem?_eq_none (by omega)]; rfl
theorem ixN_nat {n m : Nat} (q : m < n) : ixN n ((m : Nat) : Int) = some m := by
  unfold ixN
  rw [if_pos (Int.natCast_nonneg m), if_pos (by omega)]
  simp
/-! ### what is looked up, as functions -/
def vget (o : Option (Option D)) (h : PH) : Res D := match o with
  | some (some d) => .ok d h
  | _ => .stuck
@[simp] theorem vE_ap : vE i e h = vget e[i]? h := by
  unfold vE vget
  cases e[i]? with
  | none => rfl
  | some o => cases o <;> rfl
@[simp] theorem vget_some : vget (some (some d)) h = .ok d h := rfl
def lstO (o : Option Cell) : Option (List D) := match o with
  | some (.lst ds) => some ds
  | _ => none
@[simp] theorem lstO_some : lstO (some (.lst ds)) = some ds := rfl
def okO (o : Option D) (h : PH) : Res D := match o with
  | some d => .ok d h
  | none => .stuck
@[simp] theorem okO_some : okO (some d) h = .ok d h := rfl
def withL {α : Type} (o : Option (List D)) (f : List D → Res α) : Res α := match o with
  | some ds => f ds
  | none => .stuck
@[simp] theorem withL_some {f : List D → Res α} : withL (some ds) f = f ds := rfl
theorem withL_cg {o o' : Option (List D)} {f : List D → Res α} (q : o = o') : withL o f = withL o' f := by rw [q]
def PH.at (h : PH) (n : Nat) : Option Cell := h.cs[n]?
theorem PH.at_eq : h.at n = h.cs[n]? := rfl
@[simp] theorem at_mk {cs : List Cell} {l : Nat} : (PH.mk cs l).at n = cs[n]? := rfl
theorem itemsS_ref : itemsS h (.ref n) = lstO (h.at n) := by
  show (match h.cs[n]? with | some (.lst ds) => some ds | _ => none) = _
  rw [PH.at_eq]
  unfold lstO
  cases h.cs[n]? with
  | none => rfl
  | some c => cases c <;> rfl
theorem itemsL_ref : itemsL h (.ref n) = lstO (h.at n) := itemsS_ref (h := h)
@[simp] theorem ixF_tupO : ixF (.tup ds) (.int k) h = okO (atI ds k) h := by
  show (match atI ds k with | some d => Res.ok d h | none => .stuck) = _
  cases atI ds k <;> rfl
@[simp] theorem ixF_frlO : ixF (.frl ds) (.int k) h = okO (atI ds k) h := by
  show (match atI ds k with | some d => Res.ok d h | none => .stuck) = _
  cases atI ds k <;> rfl
@[simp] theorem ixF_refO : ixF (.ref n) (.int k) h = withL (lstO (h.at n)) fun ds => okO (atI ds k) h := by
  rw [PH.at_eq]
  cases z : h.cs[n]? with
  | none =>
    have e : itemsS h (.ref n) = none := by rw [itemsS_ref, PH.at_eq, z]; rfl
    show (match (match itemsS h (.ref n) with | some ds => atI ds k | none => none) with | some d => Res.ok d h | none => .stuck) = _
    rw [e]; rfl
  | some c =>
    have e : itemsS h (.ref n) = lstO (some c) := by rw [itemsS_ref, PH.at_eq, z]
    show (match (match itemsS h (.ref n) with | some ds => atI ds k | none => none) with | some d => Res.ok d h | none => .stuck) = _
    rw [e]
    cases c with
    | lst ds =>
      show (match atI ds k with | some d => Res.ok d h | none => .stuck) = okO (atI ds k) h
      cases atI ds k <;> rfl
    | _ => rfl
@[simp] theorem lenF_refO : lenF (.ref n) h = withL (lstO (h.at n)) fun ds => .ok (.int ds.length) h := by
  show (match itemsS h (.ref n) with | some ds => Res.ok (D.int ds.length) h | none => .stuck) = _
  rw [itemsS_ref]
  cases lstO (h.at n) <;> rfl
@[simp] theorem tupleF_refO : tupleF (.ref n) h = withL (lstO (h.at n)) fun ds => .ok (.tup ds) h := by
  unfold tupleF
  rw [itemsS_ref]
  cases lstO (h.at n) <;> rfl
@[simp] theorem listF_refO : listF (.ref n) h = withL (lstO (h.at n)) fun ds => .ok (.ref h.cs.length) (h.push (.lst ds)) := by
  show (match itemsS h (.ref n) with | some ds => newL ds h | none => .stuck) = _
  rw [itemsS_ref]
  cases lstO (h.at n) <;> rfl
@[simp] theorem listF_tupO : listF (.tup ds) h = .ok (.ref h.cs.length) (h.push (.lst ds)) := rfl
@[simp] theorem listF_frlO : listF (.frl ds) h = .ok (.ref h.cs.length) (h.push (.lst ds)) := rfl
def setW (o : Option (List D)) (f : List D → Out) : Out := match o with
  | some ds => f ds
  | none => .stuck
@[simp] theorem setW_some {f : List D → Out} : setW (some ds) f = f ds := rfl
theorem setW_cg {o o' : Option (List D)} {f : List D → Out} (q : o = o') : setW o f = setW o' f := by rw [q]
def setJ (o : Option Nat) (f : Nat → Out) : Out := match o with
  | some j => f j
  | none => .stuck
@[simp] theorem setJ_some {f : Nat → Out} : setJ (some j) f = f j := rfl
theorem setJ_cg {o o' : Option Nat} {f : Nat → Out} (q : o = o') : setJ o f = setJ o' f := by rw [q]
@[simp] theorem setO_refO : setO (.ref n) (.int k) d e h = setW (lstO (h.at n)) fun ds => setJ (ixN ds.length k) fun j => .nxt e (h.put n (.lst (ds.set j d))) := by
  rw [PH.at_eq]
  cases z : h.cs[n]? with
  | none =>
    have r : refLst h (.ref n) = none := by show (match h.cs[n]? with | some (.lst ds) => some (n, ds) | _ => none) = _; rw [z]
    unfold setO setIx
    rw [r]; rfl
  | some c =>
    cases c with
    | lst ds =>
      have r : refLst h (.ref n) = some (n, ds) := by show (match h.cs[n]? with | some (.lst ds) => some (n, ds) | _ => none) = _; rw [z]
      unfold setO setIx
      rw [r]
      show (match (match ixN ds.length k with | some j => some (h.put n (.lst (ds.set j d))) | none => none) with | some h4 => Out.nxt e h4 | none => .stuck) = setJ (ixN ds.length k) _
      cases ixN ds.length k <;> rfl
    | _ =>
      have r : refLst h (.ref n) = none := by show (match h.cs[n]? with | some (.lst ds) => some (n, ds) | _ => none) = _; rw [z]
      unfold setO setIx
      rw [r]; rfl
@[simp] theorem appF_refO : appF (.ref n) [d] h = withL (lstO (h.at n)) fun ds => if ds.length < 16777216 then .ok .non (h.put n (.lst (ds ++ [d]))) else .stuck := by
  rw [PH.at_eq]
  cases z : h.cs[n]? with
  | none =>
    have r : refLst h (.ref n) = none := by show (match h.cs[n]? with | some (.lst ds) => some (n, ds) | _ => none) = _; rw [z]
    unfold appF
    rw [r]; rfl
  | some c =>
    cases c with
    | lst ds =>
      have r : refLst h (.ref n) = some (n, ds) := by show (match h.cs[n]? with | some (.lst ds) => some (n, ds) | _ => none) = _; rw [z]
      unfold appF
      rw [r]; rfl
    | _ =>
      have r : refLst h (.ref n) = none := by show (match h.cs[n]? with | some (.lst ds) => some (n, ds) | _ => none) = _; rw [z]
      unfold appF
      rw [r]; rfl
@[simp] theorem at0 {xs : List D} : atI (d :: xs) 0 = some d := by rw [show (0 : Int) = ((0 : Nat) : Int) from rfl, atI_nat]; rfl
@[simp] theorem at1 {xs : List D} {d0 : D} : atI (d0 :: d :: xs) 1 = some d := by rw [show (1 : Int) = ((1 : Nat) : Int) from rfl, atI_nat]; rfl
@[simp] theorem at2 {xs : List D} {d0 d1 : D} : atI (d0 :: d1 :: d :: xs) 2 = some d := by rw [show (2 : Int) = ((2 : Nat) : Int) from rfl, atI_nat]; rfl
@[simp] theorem at3 {xs : List D} {d0 d1 d2 : D} : atI (d0 :: d1 :: d2 :: d :: xs) 3 = some d := by rw [show (3 : Int) = ((3 : Nat) : Int) from rfl, atI_nat]; rfl
@[simp] theorem at4 {xs : List D} {d0 d1 d2 d3 : D} : atI (d0 :: d1 :: d2 :: d3 :: d :: xs) 4 = some d := by rw [show (4 : Int) = ((4 : Nat) : Int) from rfl, atI_nat]; rfl
@[simp] theorem at5 {xs : List D} {d0 d1 d2 d3 d4 : D} : atI (d0 :: d1 :: d2 :: d3 :: d4 :: d :: xs) 5 = some d := by rw [show (5 : Int) = ((5 : Nat) : Int) from rfl, atI_nat]; rfl
@[simp] theorem at6 {xs : List D} {d0 d1 d2 d3 d4 d5 : D} : atI (d0 :: d1 :: d2 :: d3 :: d4 :: d5 :: d :: xs) 6 = some d := by rw [show (6 : Int) = ((6 : Nat) : Int) from rfl, atI_nat]; rfl
theorem at_int {xs : List D} (q : 0 ≤ k) : atI xs k = xs[k.toNat]? := by
  obtain ⟨m, rfl⟩ := Int.eq_ofNat_of_zero_le q
  rw [atI_nat]; rfl
@[simp] theorem ixN0 : ixN (n + 1) 0 = some 0 := ixN_nat (m := 0) (by omega)
@[simp] theorem ixN1 : ixN (n + 2) 1 = some 1 := ixN_nat (m := 1) (by omega)
@[simp] theorem ixN2 : ixN (n + 3) 2 = some 2 := ixN_nat (m := 2) (by omega)
@[simp] theorem ixN3 : ixN (n + 4) 3 = some 3 := ixN_nat (m := 3) (by omega)
@[simp] theorem ixN4 : ixN (n + 5) 4 = some 4 := ixN_nat (m := 4) (by omega)
theorem ixN_int (q : 0 ≤ k) (z : k < n) : ixN n k = some k.toNat := by
  obtain ⟨m, rfl⟩ := Int.eq_ofNat_of_zero_le q
  exact ixN_nat (Int.ofNat_lt.mp z)
@[simp] theorem put_le {c : Cell} (q : c.mr ≤ n) : h.put n c = ⟨h.cs.set n c, h.lim⟩ := by unfold PH.put; rw [if_pos q]
@[simp] theorem push_ap {c : Cell} : h.push c = ⟨h.cs ++ [c], h.lim⟩ := rfl
/-! ### loops -/
def Res.lp (r : Res Src) (t : Tgt) (b : SM) (e : Env) : Out := r.bindS e fun s h1 => forL t b s h1.cs.length (s.fuel h1) 0 e h1
@[simp] theorem forS_fr {m : IM} {t : Tgt} : forS m t b e h = (m e h).lp t b e := rfl
theorem lp_ok {t : Tgt} : (Res.ok (.vals ds) h).lp t b e = forL t b (.vals ds) h.cs.length (ds.length + 1) 0 e h := rfl
def Res.sl (r : Res D) (lo hi : OM) (e : Env) : Res D := r.bind fun d h1 => (lo e h1).bind fun l h2 => (hi e h2).bind fun u h3 => slF d l u h3
def Res.sl2 (r : Res (Option Int)) (d : D) (hi : OM) (e : Env) : Res D := r.bind fun l h2 => (hi e h2).bind fun u h3 => slF d l u h3
def Res.sl3 (r : Res (Option Int)) (d : D) (l : Option Int) : Res D := r.bind fun u h3 => slF d l u h3
@[simp] theorem slE_fr {m : EM} {lo hi : OM} : slE m lo hi e h = (m e h).sl lo hi e := rfl
@[simp] theorem sl_ok {lo hi : OM} : (Res.ok d h).sl lo hi e = (lo e h).sl2 d hi e := rfl
@[simp] theorem sl2_ok {v : Option Int} {hi : OM} : (Res.ok v h).sl2 d hi e = (hi e h).sl3 d v := rfl
@[simp] theorem sl3_ok {v u : Option Int} : (Res.ok u h).sl3 d v = slF d v u h := rfl
@[simp] theorem noO_ap : noO e h = .ok none h := rfl
def Res.so (r : Res D) : Res (Option Int) := r.bind fun d h1 => match d with
  | .int i => .ok (some i) h1
  | _ => .stuck
@[simp] theorem someO_fr {m : EM} : someO m e h = (m e h).so := rfl
@[simp] theorem so_ok : (Res.ok (.int k) h).so = .ok (some k) h := rfl
theorem forS_ap {m : IM} {t : Tgt} : forS m t b e h = (m e h).bindS e fun s h1 => forL t b s h1.cs.length (s.fuel h1) 0 e h1 := rfl
@[simp] theorem rngE_ap {f : List D → PH → Res Src} {m : AM} : rngE f m e h = (m e h).bind f := rfl
@[simp] theorem srcE_ap {m : EM} : srcE m e h = (m e h).bind srcF := rfl
@[simp] theorem revE_ap {m : EM} : revE m e h = (m e h).bind revSrc := rfl
@[simp] theorem srcF_tup : srcF (.tup ds) h = .ok (.vals ds) h := rfl
@[simp] theorem srcF_frl : srcF (.frl ds) h = .ok (.vals ds) h := rfl
@[simp] theorem srcF_str : srcF (.str s) h = .ok (.vals (signs s)) h := rfl
@[simp] theorem revSrc_tup : revSrc (.tup ds) h = .ok (.vals ds.reverse) h := rfl
@[simp] theorem range1 (q : in62 k = true) : rangeF1 [.int k] h = .ok (.vals (rangeD 0 1 k.toNat)) h := by
  unfold rangeF1
  simp only [if_pos q]
@[simp] theorem range2 (q : in62 k = true ∧ in62 l = true) : rangeF2 [.int k, .int l] h = .ok (.vals (rangeD k 1 (l - k).toNat)) h := by
  unfold rangeF2
  simp only [if_pos q]
/-- a loop over given values: each turn keeps I, ends the loop well, or goes out by Q -/
def Turn (o : Out) (I : Env → PH → Prop) (Q : Out → Prop) : Prop := match o with
  | .nxt e h => I e h
  | .cnt e h => I e h
  | .brk e h => Q (.nxt e h)
  | .ret d h => Q (.ret d h)
  | .exc c e h => Q (.exc c e h)
  | .stuck => False
def Out.next (o : Out) (t : Tgt) (b : SM) (s : Src) (l f i : Nat) : Out := match o with
  | .nxt e2 h2 => forL t b s l f i e2 (h2.gc l e2)
  | .cnt e2 h2 => forL t b s l f i e2 (h2.gc l e2)
  | .brk e2 h2 => .nxt e2 h2
  | .ret d h2 => .ret d h2
  | .exc c e2 h2 => .exc c e2 h2
  | .stuck => .stuck
theorem forL_end {t : Tgt} {sr : Src} {l f : Nat} (q : sr.item i h = some none) : forL t b sr l (f + 1) i e h = .nxt e h := by
  rw [forL, q]
theorem forL_go {t : Tgt} {sr : Src} {l f : Nat} (q : sr.item i h = some (some d)) (z : tgt t d e h = some e1) : forL t b sr l (f + 1) i e h = (b e1 h).next t b sr l f (i + 1) := by
  rw [forL, q]
  simp only [z]
  unfold Out.next
  cases b e1 h <;> rfl
theorem next_nxt {t : Tgt} {sr : Src} {l f : Nat} : (Out.nxt e h).next t b sr l f i = forL t b sr l f i e (h.gc l e) := rfl
theorem next_cnt {t : Tgt} {sr : Src} {l f : Nat} : (Out.cnt e h).next t b sr l f i = forL t b sr l f i e (h.gc l e) := rfl
theorem next_brk {t : Tgt} {sr : Src} {l f : Nat} : (Out.brk e h).next t b sr l f i = .nxt e h := rfl
theorem next_ret {t : Tgt} {sr : Src} {l f : Nat} : (Out.ret d h).next t b sr l f i = .ret d h := rfl
theorem next_exc {t : Tgt} {sr : Src} {l f : Nat} : (Out.exc c e h).next t b sr l f i = .exc c e h := rfl
theorem forL_by {t : Tgt} {sr : Src} {n l : Nat} {Q : Out → Prop} (I : Nat → Env → PH → Prop)
    (step : ∀ i e h, i < n → I i e h → ∃ d e1, sr.item i h = some (some d) ∧ tgt t d e h = some e1 ∧ Turn (b e1 h) (fun e2 h2 => I (i + 1) e2 (h2.gc l e2)) Q)
    (fin : ∀ e h, I n e h → sr.item n h = some none ∧ Q (.nxt e h)) : ∀ (f i : Nat) (e : Env) (h : PH), i + f = n + 1 → i ≤ n → I i e h → Q (forL t b sr l f i e h) := by
  intro f
  induction f with
  | zero => intro i e h q le z; omega
  | succ f ih =>
    intro i e h q le z
    by_cases hi : i < n
    · obtain ⟨d, e1, h0, h1, h2⟩ := step i e h hi z
      rw [forL_go h0 h1]
      unfold Turn at h2
      unfold Out.next
      cases q' : b e1 h with
      | nxt e2 h3 => rw [q'] at h2; exact ih _ _ _ (by omega) (by omega) h2
      | cnt e2 h3 => rw [q'] at h2; exact ih _ _ _ (by omega) (by omega) h2
      | brk e2 h3 => rw [q'] at h2; exact h2
      | ret d h3 => rw [q'] at h2; exact h2
      | exc c e2 h3 => rw [q'] at h2; exact h2
      | stuck => rw [q'] at h2; exact h2.elim
    · have ei : i = n := by omega
      subst ei
      obtain ⟨h1, h2⟩ := fin e h z
      rw [forL_end h1]
      exact h2
theorem item_vals {xs : List D} : (Src.vals xs).item i h = some xs[i]? := rfl
theorem item_cell {xs : List D} (q : h.cs[n]? = some (.lst xs)) : (Src.cell n).item i h = some xs[i]? := by
  show (match h.cs[n]? with | some (.lst ds) => some ds[i]? | _ => none) = _
  rw [q]
/-- over given values -/
theorem for_vals {t : Tgt} {xs : List D} {l : Nat} {Q : Out → Prop} (I : Nat → Env → PH → Prop)
    (step : ∀ i e h d, i < xs.length → xs[i]? = some d → I i e h → ∃ e1, tgt t d e h = some e1 ∧ Turn (b e1 h) (fun e2 h2 => I (i + 1) e2 (h2.gc l e2)) Q)
    (fin : ∀ e h, I xs.length e h → Q (.nxt e h)) (z : I 0 e h) : Q (forL t b (.vals xs) l (xs.length + 1) 0 e h) :=
  forL_by (n := xs.length) I (fun i e h hi z => by
    have e0 : xs[i]? = some xs[i] := List.getElem?_eq_getElem hi
    obtain ⟨e1, h1, h2⟩ := step i e h xs[i] hi e0 z
    exact ⟨_, e1, by rw [item_vals, e0], h1, h2⟩) (fun e h z => ⟨by rw [item_vals, List.getElem?_eq_none (by omega)], fin e h z⟩) _ _ _ _ (by omega) (by omega) z
theorem rangeD_len {i c : Int} {n : Nat} : (rangeD i c n).length = n := by unfold rangeD; simp
theorem rangeD_get {i c : Int} {m n : Nat} (q : m < n) : (rangeD i c n)[m]? = some (.int (i + (m : Int) * c)) := by
  unfold rangeD
  rw [List.getElem?_map, List.getElem?_range q]; rfl
/-- .. over range(n) -/
theorem for_range {t : Tgt} {m l : Nat} {j : Int} {Q : Out → Prop} (I : Nat → Env → PH → Prop)
    (step : ∀ i e h, i < m → I i e h → ∃ e1, tgt t (.int (j + (i : Int) * 1)) e h = some e1 ∧ Turn (b e1 h) (fun e2 h2 => I (i + 1) e2 (h2.gc l e2)) Q)
    (fin : ∀ e h, I m e h → Q (.nxt e h)) (z : I 0 e h) : Q (forL t b (.vals (rangeD j 1 m)) l ((rangeD j 1 m).length + 1) 0 e h) :=
  for_vals I (fun i e h d hi q z => by
    rw [rangeD_len] at hi
    rw [rangeD_get hi] at q
    cases q
    exact step i e h hi z) (fun e h z => by rw [rangeD_len] at z; exact fin e h z) z
/-- a fold: each turn ends well -/
theorem gc_max {l : Nat} {e : Env} (q : h.cs.length ≤ l) : h.gc l e = h := by
  unfold PH.gc
  exact cut_ge (by omega)
end
end Dy

/-! The draws of all laws: _law_begin, _law_take. -/
namespace Dy
open PySem PySem.Spec PyProof.Rows L2
def s_take : SM := seqS (ifS (andT (tbT (b2E eqF (b2E ixF (vE 0) (cE (.int 2))) (cE (.int 0)))) (tbT (b2E ltF (b2E ixF (vE 0) (cE (.int 1))) (nA (f1 lenF) (consA (b2E ixF (vE 0) (cE (.int 0))) (nilA)))))) (seqS (sixS (nA (f1 absF) (consA (nA (f1 intF) (consA (b2E ixF (b2E ixF (vE 0) (cE (.int 0))) (b2E ixF (vE 0) (cE (.int 1)))) (nilA))) (nilA))) (vE 0) (cE (.int 2))) (seqS (sixS (b2E addF (b2E ixF (vE 0) (cE (.int 1))) (cE (.int 1))) (vE 0) (cE (.int 1))) (seqS (ifS (tbT (b2E ltF (b2E ixF (vE 0) (cE (.int 2))) (b2E powF (cE (.int 10)) (cE (.int 18))))) (seqS (asgS (nA (f1 intF) (consA (b2E ixF (vE 0) (cE (.int 2))) (nilA))) (.one 2)) (seqS (sixS (cE (.int 0)) (vE 0) (cE (.int 2))) (seqS (retS (b2E modF (vE 2) (vE 1))) (nextS)))) (nextS)) (nextS)))) (nextS)) (seqS (ifS (tbT (b2E gtF (b2E ixF (vE 0) (cE (.int 2))) (cE (.int 0)))) (seqS (asgS (b2E modF (nA (f1 intF) (consA (b2E ixF (vE 0) (cE (.int 2))) (nilA))) (vE 1)) (.one 3)) (seqS (sixS (b2E fdivF (nA (f1 intF) (consA (b2E ixF (vE 0) (cE (.int 2))) (nilA))) (vE 1)) (vE 0) (cE (.int 2))) (seqS (retS (vE 3)) (nextS)))) (nextS)) (seqS (sixS (b2E modF (nA (f1 intF) (consA (b2E addF (b2E mulF (b2E ixF (vE 0) (cE (.int 3))) (cE (.int 48271))) (cE (.int 11))) (nilA))) (cE (.int 2147483647))) (vE 0) (cE (.int 3))) (seqS (retS (b2E modF (nA (f1 intF) (consA (b2E fdivF (b2E ixF (vE 0) (cE (.int 3))) (cE (.int 3))) (nilA))) (vE 1))) (nextS))))
def b_begin : SM := seqS (asgS (b2E modF (b2E addF (b2E addF (b2E mulF (vE 1) (cE (.int 69621))) (b2E modF (nA (f1 intF) (consA (vE 2) (nilA))) (cE (.int 2147483629)))) (cE (.int 7))) (cE (.int 2147483647))) (.one 1)) (nextS)
def s_begin : SM := seqS (asgS (cE (.int 1)) (.one 1)) (seqS (forS (srcE (vE 0)) (.one 2) b_begin) (seqS (retS (nA lstF (consA (nA (f1 listF) (consA (vE 0) (nilA))) (consA (cE (.int 0)) (consA (cE (.int 0)) (consA (vE 1) (nilA))))))) (nextS)))
def f_take : Fn := runF s_take 2 4
def f_begin : Fn := runF s_begin 1 3
/-- the draws' state: the script, the place, the number that digits are taken of, the seed -/
structure Dst where
  sc : List Int
  a : Int
  b : Int
  s : Int
  ha : 0 ≤ a
  hb : 0 ≤ b
  s0 : 0 ≤ s
  s1 : s < 2147483647
def dh (q : Dst) (r : List Cell) : PH := ⟨.lst (q.sc.map .int) :: .lst [.ref 0, .int q.a, .int q.b, .int q.s] :: r, 0⟩
@[simp] theorem dh_len {q : Dst} {r : List Cell} : (dh q r).cs.length = r.length + 2 := rfl
@[simp] theorem dh_lim {q : Dst} {r : List Cell} : (dh q r).lim = 0 := rfl
@[simp] theorem dh_cs {q : Dst} {r : List Cell} {n : Nat} : (dh q r).at (n + 2) = r[n]? := rfl
@[simp] theorem decT {p : Prop} [Decidable p] (h : p) : decide p = true := decide_eq_true h
theorem take_ex (q : Dst) (m : Int) (hm : 0 < m) (hz : sm m) : ∃ (r : Int) (q' : Dst), 0 ≤ r ∧ r < m ∧ ∀ rest, f_take [.ref 1, .int m] (dh q rest) = .ok (.int r) (dh q' rest) := by
  obtain ⟨sc, a, b, s, ha, hb, s0, s1⟩ := q
  by_cases c1 : b = 0 ∧ a < sc.length
  · obtain ⟨rfl, c1⟩ := c1
    obtain ⟨i, rfl⟩ := Int.eq_ofNat_of_zero_le ha
    have hi : i < sc.length := by omega
    have e0 : (sc.map D.int)[i]? = some (.int sc[i]) := by rw [List.getElem?_map, List.getElem?_eq_getElem hi]; rfl
    obtain ⟨n, hn, n0⟩ : ∃ n : Int, (if sc[i] < 0 then -sc[i] else sc[i]) = n ∧ 0 ≤ n := ⟨_, rfl, by split <;> omega⟩
    have i1 : (0 : Int) ≤ i + 1 := by omega
    by_cases c2 : n < 1000000000000000000
    · refine ⟨n % m, ⟨sc, i + 1, 0, s, i1, by omega, s0, s1⟩, Int.emod_nonneg _ (by omega), Int.emod_lt_of_pos _ hm, fun rest => ?_⟩
      unfold f_take s_take dh
      simp [hm, hz, hi, e0, atI_nat, Cell.mr, mrL, D.mr, hn, c2, PH.cut]
    · have n1 : 0 < n := by omega
      refine ⟨n % m, ⟨sc, i + 1, n / m, s, i1, Int.ediv_nonneg n0 (by omega), s0, s1⟩, Int.emod_nonneg _ (by omega), Int.emod_lt_of_pos _ hm, fun rest => ?_⟩
      unfold f_take s_take dh
      simp [hm, hz, hi, e0, atI_nat, Cell.mr, mrL, D.mr, hn, c2, n1, PH.cut]
  · by_cases c2 : 0 < b
    · refine ⟨b % m, ⟨sc, a, b / m, s, ha, Int.ediv_nonneg hb (by omega), s0, s1⟩, Int.emod_nonneg _ (by omega), Int.emod_lt_of_pos _ hm, fun rest => ?_⟩
      have c3 : ¬ b = 0 := by omega
      unfold f_take s_take dh
      simp [hm, hz, Cell.mr, mrL, D.mr, c2, c3, PH.cut]
    · have c3 : b = 0 := by omega
      subst c3
      have c4 : ¬ a < sc.length := fun z => c1 ⟨rfl, z⟩
      have z1 : sm s := sm_lt (by omega) (by omega)
      refine ⟨(s * 48271 + 11) % 2147483647 / 3 % m, ⟨sc, a, 0, (s * 48271 + 11) % 2147483647, ha, by omega, Int.emod_nonneg _ (by omega), Int.emod_lt_of_pos _ (by omega)⟩, Int.emod_nonneg _ (by omega), Int.emod_lt_of_pos _ hm, fun rest => ?_⟩
      unfold f_take s_take dh
      simp [hm, hz, Cell.mr, mrL, D.mr, c4, z1, PH.cut]
open Classical in
noncomputable def takeV (q : Dst) (m : Int) : Int := if z : 0 < m ∧ sm m then (take_ex q m z.1 z.2).choose else 0
open Classical in
noncomputable def takeQ (q : Dst) (m : Int) : Dst := if z : 0 < m ∧ sm m then (take_ex q m z.1 z.2).choose_spec.choose else q
@[simp] theorem take_ap {q : Dst} {m : Int} {rest : List Cell} (hm : 0 < m) (hz : sm m) : f_take [.ref 1, .int m] (dh q rest) = .ok (.int (takeV q m)) (dh (takeQ q m) rest) := by
  unfold takeV takeQ
  rw [dif_pos ⟨hm, hz⟩, dif_pos ⟨hm, hz⟩]
  exact (take_ex q m hm hz).choose_spec.choose_spec.2.2 rest
theorem takeV_0 {q : Dst} {m : Int} : 0 ≤ takeV q m := by
  unfold takeV
  split
  · rename_i z; exact (take_ex q m z.1 z.2).choose_spec.choose_spec.1
  · exact Int.le_refl _
theorem takeV_lt {q : Dst} {m : Int} (hm : 0 < m) (hz : sm m) : takeV q m < m := by
  unfold takeV
  rw [dif_pos ⟨hm, hz⟩]
  exact (take_ex q m hm hz).choose_spec.choose_spec.2.1
theorem begin_ex (sc : List Int) : ∃ q : Dst, f_begin [.frl (sc.map .int)] ⟨[], 0⟩ = .ok (.ref 1) (dh q []) := by
  have loop : ∀ (f i : Nat) (s : Int) (r : Option D), i + f = sc.length + 1 → 0 ≤ s → s < 2147483647 → ∃ s' r', 0 ≤ s' ∧ s' < 2147483647 ∧
      forL (.one 2) b_begin (.vals (sc.map D.int)) 0 f i [some (.frl (sc.map .int)), some (.int s), r] ⟨[], 0⟩ = .nxt [some (.frl (sc.map .int)), some (.int s'), r'] ⟨[], 0⟩ ∨ sc.length < i := by
    intro f
    induction f with
    | zero => intro i s r q h0 h1; exact ⟨0, r, .inr (by omega)⟩
    | succ f ih =>
      intro i s r q h0 h1
      by_cases hi : i < sc.length
      · have e0 : (sc.map D.int)[i]? = some (.int sc[i]) := by rw [List.getElem?_map, List.getElem?_eq_getElem hi]; rfl
        have z1 : sm s := sm_lt (by omega) (by omega)
        obtain ⟨s', r', z⟩ := ih (i + 1) ((s * 69621 + sc[i] % 2147483629 + 7) % 2147483647) (some (.int sc[i])) (by omega) (Int.emod_nonneg _ (by omega)) (Int.emod_lt_of_pos _ (by omega))
        rcases z with ⟨a1, a2, z⟩ | z
        · refine ⟨s', r', .inl ⟨a1, a2, ?_⟩⟩
          rw [forL_go (d := .int sc[i]) (by rw [item_vals, e0]) rfl]
          have : b_begin [some (D.frl (sc.map .int)), some (.int s), some (.int sc[i])] ⟨[], 0⟩ = .nxt [some (.frl (sc.map .int)), some (.int ((s * 69621 + sc[i] % 2147483629 + 7) % 2147483647)), some (.int sc[i])] ⟨[], 0⟩ := by
            unfold b_begin
            simp [z1]
          show (b_begin [some (D.frl (sc.map .int)), some (.int s), some (.int sc[i])] ⟨[], 0⟩).next _ _ _ _ _ _ = _
          rw [this, next_nxt, gc_max (Nat.zero_le _)]
          exact z
        · omega
      · have e0 : (sc.map D.int)[i]? = none := by rw [List.getElem?_eq_none]; rw [List.length_map]; omega
        refine ⟨s, r, .inl ⟨h0, h1, ?_⟩⟩
        rw [forL_end (by rw [item_vals, e0])]
  obtain ⟨s', r', z⟩ := loop (sc.length + 1) 0 1 none (by omega) (by omega) (by omega)
  rcases z with ⟨a1, a2, z⟩ | z
  · refine ⟨⟨sc, 0, 0, s', by omega, by omega, a1, a2⟩, ?_⟩
    unfold f_begin s_begin dh
    simp [z, PH.cut, D.mr, lp_ok]
  · omega
noncomputable def beginQ (sc : List Int) : Dst := (begin_ex sc).choose
@[simp] theorem begin_ap {sc : List Int} : f_begin [.frl (sc.map .int)] ⟨[], 0⟩ = .ok (.ref 1) (dh (beginQ sc) []) := (begin_ex sc).choose_spec
end Dy

/-! Loops and comprehensions over given values, as recursions on the list. -/
namespace Dy
open PySem PySem.Spec PyProof.Rows L2
section
variable {e e1 : Env} {h h1 : PH} {b : SM} {c : Str} {d : D} {ds xs : List D} {t : Tgt} {l n i : Nat}
def forV (t : Tgt) (b : SM) (l : Nat) : List D → Env → PH → Out
  | [], e, h => .nxt e h
  | d :: ds, e, h => match tgt t d e h with
    | none => .stuck
    | some e1 => (match b e1 h with
      | .nxt e2 h2 => forV t b l ds e2 (h2.gc l e2)
      | .cnt e2 h2 => forV t b l ds e2 (h2.gc l e2)
      | .brk e2 h2 => .nxt e2 h2
      | .ret d h2 => .ret d h2
      | .exc c e2 h2 => .exc c e2 h2
      | .stuck => .stuck)
def Out.nextV (o : Out) (t : Tgt) (b : SM) (l : Nat) (ds : List D) : Out := match o with
  | .nxt e2 h2 => forV t b l ds e2 (h2.gc l e2)
  | .cnt e2 h2 => forV t b l ds e2 (h2.gc l e2)
  | .brk e2 h2 => .nxt e2 h2
  | .ret d h2 => .ret d h2
  | .exc c e2 h2 => .exc c e2 h2
  | .stuck => .stuck
def tgtO (o : Option Env) (b : SM) (h : PH) : Out := match o with
  | some e1 => b e1 h
  | none => .stuck
@[simp] theorem tgtO_some : tgtO (some e) b h = b e h := rfl
@[simp] theorem forV_nil : forV t b l [] e h = .nxt e h := rfl
@[simp] theorem forV_cons : forV t b l (d :: ds) e h = (tgtO (tgt t d e h) b h).nextV t b l ds := by
  rw [forV]
  cases tgt t d e h with
  | none => rfl
  | some e1 =>
    rw [tgtO_some]
    unfold Out.nextV
    cases q : b e1 h <;> simp only [q]
@[simp] theorem nextV_nxt : (Out.nxt e h).nextV t b l ds = forV t b l ds e (h.gc l e) := rfl
@[simp] theorem nextV_cnt : (Out.cnt e h).nextV t b l ds = forV t b l ds e (h.gc l e) := rfl
@[simp] theorem nextV_brk : (Out.brk e h).nextV t b l ds = .nxt e h := rfl
@[simp] theorem nextV_ret : (Out.ret d h).nextV t b l ds = .ret d h := rfl
@[simp] theorem nextV_exc : (Out.exc c e h).nextV t b l ds = .exc c e h := rfl
theorem forL_forV : ∀ (f i : Nat) (e : Env) (h : PH), i + f = xs.length + 1 → i ≤ xs.length → forL t b (.vals xs) l f i e h = forV t b l (xs.drop i) e h := by
  intro f
  induction f with
  | zero => intro i e h q z; omega
  | succ f ih =>
    intro i e h q z
    by_cases hi : i < xs.length
    · have e0 : xs[i]? = some xs[i] := List.getElem?_eq_getElem hi
      rw [List.drop_eq_getElem_cons hi, forV_cons]
      cases q' : tgt t xs[i] e h with
      | none =>
        rw [forL, item_vals, e0]
        simp only [q']
        rfl
      | some e1 =>
        rw [forL_go (by rw [item_vals, e0]) q']
        show Out.next (b e1 h) _ _ _ _ _ _ = Out.nextV (b e1 h) _ _ _ _
        unfold Out.next Out.nextV
        cases b e1 h with
        | nxt e2 h2 => exact ih _ _ _ (by omega) (by omega)
        | cnt e2 h2 => exact ih _ _ _ (by omega) (by omega)
        | _ => rfl
    · have ei : i = xs.length := by omega
      subst ei
      rw [forL_end (by rw [item_vals, List.getElem?_eq_none (by omega)]), List.drop_eq_nil_of_le (Nat.le_refl _)]; rfl
@[simp] theorem lp_vals : (Res.ok (.vals ds) h).lp t b e = forV t b h.cs.length ds e h := by
  rw [lp_ok, forL_forV _ _ _ _ (by omega) (by omega)]; rfl
/-- over the items of a list that the turns leave as it is -/
theorem lp_cell : (Res.ok (.cell n) h).lp t b e = forL t b (.cell n) h.cs.length ((Src.cell n).fuel h) 0 e h := rfl
theorem rangeD_nil {j k : Int} : rangeD j k 0 = [] := rfl
theorem rangeD_cons {j k : Int} : rangeD j k (n + 1) = .int j :: rangeD (j + k) k n := by
  unfold rangeD
  rw [List.range_succ_eq_map, List.map_cons, List.map_map]
  congr 1
  · simp
  · apply List.map_congr_left
    intro a _
    show D.int (j + ((a + 1 : Nat) : Int) * k) = D.int (j + k + (a : Int) * k)
    congr 1
    rw [Int.natCast_add, Int.add_mul]
    simp
    omega
/-- what holds ahead of each turn -/
theorem forV_by {Q : Out → Prop} (I : List D → Env → PH → Prop)
    (step : ∀ d ds e h, I (d :: ds) e h → ∃ e1, tgt t d e h = some e1 ∧ Turn (b e1 h) (fun e2 h2 => I ds e2 (h2.gc l e2)) Q)
    (fin : ∀ e h, I [] e h → Q (.nxt e h)) : ∀ (ds : List D) (e : Env) (h : PH), I ds e h → Q (forV t b l ds e h) := by
  intro ds
  induction ds with
  | nil => intro e h z; exact fin e h z
  | cons d ds ih =>
    intro e h z
    obtain ⟨e1, h1, h2⟩ := step d ds e h z
    rw [forV_cons, h1, tgtO_some]
    unfold Turn at h2
    unfold Out.nextV
    cases q' : b e1 h with
    | nxt e2 h3 => rw [q'] at h2; exact ih _ _ h2
    | cnt e2 h3 => rw [q'] at h2; exact ih _ _ h2
    | brk e2 h3 => rw [q'] at h2; exact h2
    | ret d h3 => rw [q'] at h2; exact h2
    | exc c e2 h3 => rw [q'] at h2; exact h2
    | stuck => rw [q'] at h2; exact h2.elim
/-! ### comprehensions -/
variable {tst : TM} {elt : EM} {e0 : Env} {own : List Nat}
def compV (t : Tgt) (tst : TM) (elt : EM) (e0 : Env) : List D → PH → Res (List D)
  | [], h => .ok [] h
  | d :: ds, h => match tgt t d e0 h with
    | none => .stuck
    | some e1 => (tst e1 h).bind fun c h1 => match c with
        | true => (elt e1 h1).bind fun v h2 => (compV t tst elt e0 ds (h2.cut (max h.cs.length (max h2.lim v.mr)))).bind fun vs h3 => .ok (v :: vs) h3
        | false => compV t tst elt e0 ds (h1.cut (max h.cs.length h1.lim))
def tgtR (o : Option Env) (f : Env → Res (List D)) : Res (List D) := match o with
  | some e1 => f e1
  | none => .stuck
def Res.cp1 (r : Res Bool) (t : Tgt) (tst : TM) (elt : EM) (e0 e1 : Env) (n : Nat) (ds : List D) : Res (List D) := r.bind fun c h1 => match c with
  | true => (elt e1 h1).bind fun v h2 => (compV t tst elt e0 ds (h2.cut (max n (max h2.lim v.mr)))).bind fun vs h3 => .ok (v :: vs) h3
  | false => compV t tst elt e0 ds (h1.cut (max n h1.lim))
def Res.cp2 (r : Res D) (t : Tgt) (tst : TM) (elt : EM) (e0 : Env) (n : Nat) (ds : List D) : Res (List D) := r.bind fun v h2 => (compV t tst elt e0 ds (h2.cut (max n (max h2.lim v.mr)))).bind fun vs h3 => .ok (v :: vs) h3
def compT (o : Option Env) (t : Tgt) (tst : TM) (elt : EM) (e0 : Env) (h : PH) (ds : List D) : Res (List D) := match o with
  | none => .stuck
  | some e1 => (tst e1 h).cp1 t tst elt e0 e1 h.cs.length ds
@[simp] theorem compT_some : compT (some e1) t tst elt e0 h ds = (tst e1 h).cp1 t tst elt e0 e1 h.cs.length ds := rfl
@[simp] theorem compV_nil : compV t tst elt e0 [] h = .ok [] h := rfl
@[simp] theorem compV_cons : compV t tst elt e0 (d :: ds) h = compT (tgt t d e0 h) t tst elt e0 h ds := by
  rw [compV]; cases tgt t d e0 h <;> rfl
@[simp] theorem cp1_true : (Res.ok true h).cp1 t tst elt e0 e1 n ds = (elt e1 h).cp2 t tst elt e0 n ds := rfl
@[simp] theorem cp1_false : (Res.ok false h).cp1 t tst elt e0 e1 n ds = compV t tst elt e0 ds (h.cut (max n h.lim)) := rfl
@[simp] theorem cp2_ok : (Res.ok d h).cp2 t tst elt e0 n ds = (compV t tst elt e0 ds (h.cut (max n (max h.lim d.mr)))).c2 d := rfl
@[simp] theorem yesT_ap : yesT e h = .ok true h := rfl
theorem compL_compV : ∀ (f i : Nat) (h : PH), i + f = xs.length + 1 → i ≤ xs.length → compL t tst elt (.vals xs) e0 f i h = compV t tst elt e0 (xs.drop i) h := by
  intro f
  induction f with
  | zero => intro i h q z; omega
  | succ f ih =>
    intro i h q z
    by_cases hi : i < xs.length
    · have e9 : xs[i]? = some xs[i] := List.getElem?_eq_getElem hi
      rw [List.drop_eq_getElem_cons hi, compV, compL, item_vals, e9]
      have z1 : ∀ h, compL t tst elt (.vals xs) e0 f (i + 1) h = compV t tst elt e0 (xs.drop (i + 1)) h := fun h => ih _ h (by omega) (by omega)
      simp only [z1] <;> cases tgt t xs[i] e0 h <;> rfl
    · have ei : i = xs.length := by omega
      subst ei
      rw [compL, item_vals, List.getElem?_eq_none (by omega), List.drop_eq_nil_of_le (Nat.le_refl _)]; rfl
def Res.cm (r : Res Src) (own : List Nat) (t : Tgt) (tst : TM) (elt : EM) (e : Env) : Res D := r.bind fun s h1 => (noX (compL t tst elt s (wipeE e own) (s.fuel h1) 0 h1)).bind finL
@[simp] theorem compE_fr {m : IM} : compE m own t tst elt e h = (m e h).cm own t tst elt e := rfl
def Res.fl (r : Res (List D)) : Res D := (noX r).bind finL
@[simp] theorem cm_vals : (Res.ok (.vals ds) h).cm own t tst elt e = (compV t tst elt (wipeE e own) ds h).fl := by
  show (noX (compL t tst elt (.vals ds) (wipeE e own) (ds.length + 1) 0 h)).bind finL = _
  rw [compL_compV _ _ _ (by omega) (by omega)]; rfl
@[simp] theorem fl_ok (q : ds.length ≤ 16777216) : (Res.ok ds h).fl = .ok (.ref h.cs.length) (h.push (.lst ds)) := by
  show (if ds.length ≤ 16777216 then newL ds h else .stuck) = _
  rw [if_pos q]; rfl
/-! .. of elements that raise -/
def Res.cmX (r : Res Src) (own : List Nat) (t : Tgt) (tst : TM) (elt : EM) (e : Env) : Res D := r.bind fun s h1 => fXA (s.fuel h1) [] (compL t tst elt s (wipeE e own) (s.fuel h1) 0 h1)
@[simp] theorem compXE_fr {m : IM} : compXE m own t tst elt e h = (m e h).cmX own t tst elt e := rfl
def Res.flX (r : Res (List D)) (N : Nat) : Res D := fXA N [] r
@[simp] theorem cmX_vals : (Res.ok (.vals ds) h).cmX own t tst elt e = (compV t tst elt (wipeE e own) ds h).flX (ds.length + 1) := by
  show fXA (ds.length + 1) [] (compL t tst elt (.vals ds) (wipeE e own) (ds.length + 1) 0 h) = _
  rw [compL_compV _ _ _ (by omega) (by omega)]; rfl
@[simp] theorem flX_ok {N : Nat} (q : ds.length ≤ 16777216) : (Res.ok ds h).flX N = .ok (.ref h.cs.length) (h.push (.lst ds)) := by
  show (if ds.length ≤ 16777216 then newL ds h else .stuck) = _
  rw [if_pos q]; rfl
@[simp] theorem flX_exc {N : Nat} (q : N ≤ 16777216) : (Res.exc c h : Res (List D)).flX N = .exc c h := if_pos q
@[simp] theorem wipeE_nil : wipeE e [] = e := rfl
@[simp] theorem wipeE_cons {v : Nat} {vs : List Nat} : wipeE e (v :: vs) = (wipeE e vs).set v none := rfl
theorem compV_map {p : D → Bool} {g : D → D} : ∀ {ds : List D}, (∀ d ∈ ds, ∃ e1, tgt t d e0 h = some e1 ∧ tst e1 h = .ok (p d) h ∧ (p d = true → elt e1 h = .ok (g d) h)) → compV t tst elt e0 ds h = .ok ((ds.filter p).map g) h := by
  intro ds
  induction ds with
  | nil => intro _; rfl
  | cons d ds ih =>
    intro H
    obtain ⟨e1, h1, h2, h3⟩ := H d List.mem_cons_self
    have r := ih fun d' hd => H d' (List.mem_cons_of_mem _ hd)
    rw [compV_cons, h1, compT_some, h2]
    cases q : p d with
    | true => rw [cp1_true, h3 q, cp2_ok, cut_max, r, List.filter_cons_of_pos q]; rfl
    | false => rw [cp1_false, cut_max, r, List.filter_cons_of_neg (by simp [q])]
/-- .. without a test -/
theorem compV_all {g : D → D} {ds : List D} (H : ∀ d ∈ ds, ∃ e1, tgt t d e0 h = some e1 ∧ elt e1 h = .ok (g d) h) : compV t yesT elt e0 ds h = .ok (ds.map g) h := by
  have z := compV_map (t := t) (tst := yesT) (elt := elt) (e0 := e0) (h := h) (p := fun _ => true) (g := g) (ds := ds) fun d hd => by
    obtain ⟨e1, h1, h2⟩ := H d hd
    exact ⟨e1, h1, rfl, fun _ => h2⟩
  rw [z, List.filter_eq_self.mpr (fun _ _ => rfl)]
end
end Dy

/-! Small helps. -/
namespace Dy
open PySem PySem.Spec PyProof.Rows L2
@[simp] theorem in62_lit {i : Int} (q : -4611686018427387904 < i) (z : i < 4611686018427387904) : in62 i = true := by
  exact Nat.ble_eq_true_of_le (by omega)
@[simp] theorem non_1 : isNonD .non = true := rfl
@[simp] theorem non_2 {i : Int} : isNonD (.int i) = false := rfl
@[simp] theorem non_3 {i : Bool} : isNonD (.bl i) = false := rfl
@[simp] theorem non_4 {i : Str} : isNonD (.str i) = false := rfl
@[simp] theorem non_5 {i : List D} : isNonD (.tup i) = false := rfl
@[simp] theorem non_6 {i : Nat} : isNonD (.ref i) = false := rfl
/-- what a statement ends in, asked -/
theorem ok_iff {r : Res D} {d : D} {h : PH} (q : r = .ok d h) : ∃ h, r = .ok d h := ⟨h, q⟩
@[simp] theorem mr_non : (D.non).mr = 0 := rfl
@[simp] theorem mr_int {i : Int} : (D.int i).mr = 0 := rfl
@[simp] theorem mr_bl {i : Bool} : (D.bl i).mr = 0 := rfl
@[simp] theorem mr_str {i : Str} : (D.str i).mr = 0 := rfl
@[simp] theorem mr_ref {i : Nat} : (D.ref i).mr = i + 1 := rfl
@[simp] theorem mr_tup {ds : List D} : (D.tup ds).mr = mrL ds := rfl
@[simp] theorem mr_frl {ds : List D} : (D.frl ds).mr = mrL ds := rfl
@[simp] theorem mrL_nil : mrL [] = 0 := rfl
@[simp] theorem mrL_cons {d : D} {ds : List D} : mrL (d :: ds) = max d.mr (mrL ds) := rfl
@[simp] theorem mr_lst {ds : List D} : (Cell.lst ds).mr = mrL ds := rfl
@[simp] theorem mrL_int {ns : List Int} : mrL (ns.map D.int) = 0 := mrL_ints ns
@[simp] theorem cut_self {h : PH} : h.cut h.cs.length = h := cut_ge (Nat.le_refl _)
@[simp] theorem isi1 {i : Int} {h : PH} : isiF (.int i) (.ty "int") h = .ok (.bl true) h := by
  show (if tyAsk.contains "int" = true then Res.ok (D.bl (isiB "int" "int")) h else .stuck) = _
  rw [if_pos (by decide +kernel), show isiB "int" "int" = true by decide +kernel]
@[simp] theorem isi2 {i : Int} {h : PH} : isiF (.int i) (.ty "bool") h = .ok (.bl false) h := by
  show (if tyAsk.contains "bool" = true then Res.ok (D.bl (isiB "int" "bool")) h else .stuck) = _
  rw [if_pos (by decide +kernel), show isiB "int" "bool" = false by decide +kernel]
@[simp] theorem isi3 {i : Bool} {h : PH} : isiF (.bl i) (.ty "bool") h = .ok (.bl true) h := by
  show (if tyAsk.contains "bool" = true then Res.ok (D.bl (isiB "bool" "bool")) h else .stuck) = _
  rw [if_pos (by decide +kernel), show isiB "bool" "bool" = true by decide +kernel]
@[simp] theorem isi4 {i : Bool} {h : PH} : isiF (.bl i) (.ty "int") h = .ok (.bl true) h := by
  show (if tyAsk.contains "int" = true then Res.ok (D.bl (isiB "bool" "int")) h else .stuck) = _
  rw [if_pos (by decide +kernel), show isiB "bool" "int" = true by decide +kernel]
@[simp] theorem isi5 {i : List D} {h : PH} : isiF (.tup i) (.ty "tuple") h = .ok (.bl true) h := by
  show (if tyAsk.contains "tuple" = true then Res.ok (D.bl (isiB "tuple" "tuple")) h else .stuck) = _
  rw [if_pos (by decide +kernel), show isiB "tuple" "tuple" = true by decide +kernel]
@[simp] theorem isi6 {i : Str} {h : PH} : isiF (.str i) (.ty "str") h = .ok (.bl true) h := by
  show (if tyAsk.contains "str" = true then Res.ok (D.bl (isiB "str" "str")) h else .stuck) = _
  rw [if_pos (by decide +kernel), show isiB "str" "str" = true by decide +kernel]
@[simp] theorem isi7 {i : Str} {h : PH} : isiF (.str i) (.ty "int") h = .ok (.bl false) h := by
  show (if tyAsk.contains "int" = true then Res.ok (D.bl (isiB "str" "int")) h else .stuck) = _
  rw [if_pos (by decide +kernel), show isiB "str" "int" = false by decide +kernel]
@[simp] theorem isi8 {h : PH} : isiF .non (.ty "int") h = .ok (.bl false) h := by
  show (if tyAsk.contains "int" = true then Res.ok (D.bl (isiB "NoneType" "int")) h else .stuck) = _
  rw [if_pos (by decide +kernel), show isiB "NoneType" "int" = false by decide +kernel]
@[simp] theorem isi9 {i : List D} {h : PH} : isiF (.tup i) (.ty "int") h = .ok (.bl false) h := by
  show (if tyAsk.contains "int" = true then Res.ok (D.bl (isiB "tuple" "int")) h else .stuck) = _
  rw [if_pos (by decide +kernel), show isiB "tuple" "int" = false by decide +kernel]
@[simp] theorem takeV_z {q : Dst} {m : Int} : 0 ≤ takeV q m := takeV_0
/-! ### the heap of a law -/
variable {q : Dst} {r : List Cell} {n : Nat} {c : Cell}
@[simp] theorem dh_push : (dh q r).push c = dh q (r ++ [c]) := rfl
@[simp] theorem dh_push' : (⟨(dh q r).cs ++ [c], 0⟩ : PH) = dh q (r ++ [c]) := rfl
theorem dh_put (z : c.mr ≤ n + 2) : (dh q r).put (n + 2) c = dh q (r.set n c) := by
  rw [put_le z]; rfl
@[simp] theorem dh_set : (⟨(dh q r).cs.set (n + 2) c, 0⟩ : PH) = dh q (r.set n c) := rfl
@[simp] theorem dh_cut {m : Nat} : (dh q r).cut (m + 2) = dh q (r.take m) := rfl
theorem dh_gc {m : Nat} {e : Env} (z : r.length ≤ m) : (dh q r).gc (m + 2) e = dh q r := gc_max (by rw [dh_len]; omega)
@[simp] theorem dh_gc2 {e : Env} : (dh q []).gc 2 e = dh q [] := gc_max (Nat.le_refl _)
@[simp] theorem dh_gc3 {e : Env} : (dh q [c]).gc 3 e = dh q [c] := gc_max (Nat.le_refl _)
@[simp] theorem dh_gc4 {e : Env} {c1 : Cell} : (dh q [c, c1]).gc 4 e = dh q [c, c1] := gc_max (Nat.le_refl _)
@[simp] theorem dh_gc5 {e : Env} {c1 c2 : Cell} : (dh q [c, c1, c2]).gc 5 e = dh q [c, c1, c2] := gc_max (Nat.le_refl _)
end Dy

namespace Lk81
open PySem PySem.Spec PyProof.Rows L2 Dy
def top (i : Nat) : Stmt := PySem.Challenge.pw_tensorcompiler_k81_both_sides_of_each_bo.main.body.getD i (.Pass ⟨0, 0, 0, 0⟩)
def c_LIMITS : D := .tup [.tup [.int 32, .int 256], .tup [.int 1, .int 16384], .tup [.int 16, .int 4096], .tup [.int 1, .int 4], .tup [.int 1, .int 16]]
def c_EXECUTION_LIMIT : D := .int 1000000000
def c_NEST_LIMIT : D := .int 16
def c_CODE_LIMIT : D := .int 4000000
def c_WIDEST : D := .int 1606938044258990275541962092341162602522202993782792835301376
def c_POINTWISE : D := .tup [.str "add", .str "sub", .str "mul", .str "max", .str "min", .str "less", .str "equal", .str "neg", .str "clamp", .str "shift", .str "where"]
def c_FIGURE_LIMIT_listing : D := .int 90
def c_FIGURES : D := .str "0123456789"
def c_WORK_LIMIT : D := .int 50000
def c_NODE_LIMIT : D := .int 400
def c_BROADCAST : D := .tup [.str "add", .str "sub", .str "mul", .str "max", .str "min", .str "less", .str "equal", .str "where"]
def c_COUNT_LIMIT : D := .int 256
def c_SIZE_LIMIT : D := .int 16
def c_RANK_LIMIT : D := .int 4
def c_WITH_AXIS : D := .tup [.str "sum", .str "peak", .str "dot", .str "rename", .str "cut", .str "pad", .str "join", .str "window", .str "fold", .str "gather"]
def c_FIGURE_LIMIT_notation : D := .int 70
def c_LETTERS : D := .str "abcdefghijklmnopqrstuvwxyz"
def c_OFFSETS : List (Str × D) := [("set", .tup []), ("do", .tup []), ("load", .tup [.int 3]), ("store", .tup [.int 2]), ("mac", .tup [.int 3, .int 5]), ("vector", .tup []), ("loop", .tup []), ("end", .tup []), ("skip", .tup []), ("in", .tup [.int 3, .int 5]), ("out", .tup [.int 3, .int 5]), ("wait", .tup [])]
def c_SLOTS : List (Str × D) := [("set", .tup [.int 1]), ("do", .tup [.int 2]), ("load", .tup [.int 1, .int 2]), ("store", .tup [.int 1, .int 3]), ("mac", .tup [.int 1, .int 2, .int 4]), ("vector", .tup [.int 2, .int 3, .int 4]), ("loop", .tup [.int 1]), ("end", .tup []), ("skip", .tup [.int 1]), ("in", .tup [.int 2, .int 4]), ("out", .tup [.int 2, .int 4]), ("wait", .tup [])]
def c_ARGS : List (Str × D) := [("input", .int 0), ("const", .int 0), ("add", .int 2), ("sub", .int 2), ("mul", .int 2), ("max", .int 2), ("min", .int 2), ("less", .int 2), ("equal", .int 2), ("neg", .int 1), ("clamp", .int 1), ("shift", .int 1), ("where", .int 3), ("sum", .int 1), ("peak", .int 1), ("dot", .int 2), ("order", .int 1), ("rename", .int 1), ("spread", .int 1), ("cut", .int 1), ("pad", .int 1), ("join", .int 2), ("window", .int 1), ("fold", .int 1), ("gather", .int 2)]
def c_FIELDS : List (Str × D) := [("input", .int 3), ("const", .int 2), ("add", .int 0), ("sub", .int 0), ("mul", .int 0), ("max", .int 0), ("min", .int 0), ("less", .int 0), ("equal", .int 0), ("neg", .int 0), ("clamp", .int 2), ("shift", .int 1), ("where", .int 0), ("sum", .int 1), ("peak", .int 1), ("dot", .int 1), ("order", .int 1), ("rename", .int 2), ("spread", .int 2), ("cut", .int 3), ("pad", .int 3), ("join", .int 1), ("window", .int 4), ("fold", .int 4), ("gather", .int 1)]
def c_LENGTHS : List (Str × D) := [("set", .int 3), ("do", .int 5), ("load", .int 4), ("store", .int 4), ("mac", .int 7), ("vector", .int 6), ("loop", .int 5), ("end", .int 1), ("skip", .int 3), ("in", .int 7), ("out", .int 7), ("wait", .int 2)]
def c_AXIS_FIELDS : List (Str × D) := [("sum", .int 1), ("peak", .int 1), ("dot", .int 1), ("rename", .int 2), ("spread", .int 1), ("cut", .int 1), ("pad", .int 1), ("join", .int 1), ("window", .int 2), ("fold", .int 2), ("gather", .int 1)]
def tb : Tb := { con := [("LIMITS", c_LIMITS), ("EXECUTION_LIMIT", c_EXECUTION_LIMIT), ("NEST_LIMIT", c_NEST_LIMIT), ("CODE_LIMIT", c_CODE_LIMIT), ("WIDEST", c_WIDEST), ("POINTWISE", c_POINTWISE), ("FIGURE_LIMIT_listing", c_FIGURE_LIMIT_listing), ("FIGURES", c_FIGURES), ("WORK_LIMIT", c_WORK_LIMIT), ("NODE_LIMIT", c_NODE_LIMIT), ("BROADCAST", c_BROADCAST), ("COUNT_LIMIT", c_COUNT_LIMIT), ("SIZE_LIMIT", c_SIZE_LIMIT), ("RANK_LIMIT", c_RANK_LIMIT), ("WITH_AXIS", c_WITH_AXIS), ("FIGURE_LIMIT_notation", c_FIGURE_LIMIT_notation), ("LETTERS", c_LETTERS)], free := ["int", "abs", "all", "isinstance", "range", "max", "len", "tuple", "min", "list", "sorted", "any"], exc := ["TensorError", "MachineError", "TooLarge", "RangeError", "FormError", "TextError", "TooWide", "RankError", "AxisError", "KindError"], sub := [((("MachineError" : Str), ("TensorError" : Str)), true), ((("MachineError" : Str), ("MachineError" : Str)), true), ((("MachineError" : Str), ("FormError" : Str)), false), ((("MachineError" : Str), ("RangeError" : Str)), false), ((("MachineError" : Str), ("TextError" : Str)), false), ((("TooLarge" : Str), ("TensorError" : Str)), true), ((("TooLarge" : Str), ("MachineError" : Str)), false), ((("TooLarge" : Str), ("FormError" : Str)), false), ((("TooLarge" : Str), ("RangeError" : Str)), false), ((("TooLarge" : Str), ("TextError" : Str)), false), ((("RangeError" : Str), ("TensorError" : Str)), true), ((("RangeError" : Str), ("MachineError" : Str)), false), ((("RangeError" : Str), ("FormError" : Str)), false), ((("RangeError" : Str), ("RangeError" : Str)), true), ((("RangeError" : Str), ("TextError" : Str)), false), ((("FormError" : Str), ("TensorError" : Str)), true), ((("FormError" : Str), ("MachineError" : Str)), false), ((("FormError" : Str), ("FormError" : Str)), true), ((("FormError" : Str), ("RangeError" : Str)), false), ((("FormError" : Str), ("TextError" : Str)), false), ((("TextError" : Str), ("TensorError" : Str)), true), ((("TextError" : Str), ("MachineError" : Str)), false), ((("TextError" : Str), ("FormError" : Str)), false), ((("TextError" : Str), ("RangeError" : Str)), false), ((("TextError" : Str), ("TextError" : Str)), true), ((("TooWide" : Str), ("TensorError" : Str)), true), ((("TooWide" : Str), ("MachineError" : Str)), false), ((("TooWide" : Str), ("FormError" : Str)), false), ((("TooWide" : Str), ("RangeError" : Str)), false), ((("TooWide" : Str), ("TextError" : Str)), false), ((("RankError" : Str), ("TensorError" : Str)), true), ((("RankError" : Str), ("MachineError" : Str)), false), ((("RankError" : Str), ("FormError" : Str)), false), ((("RankError" : Str), ("RangeError" : Str)), false), ((("RankError" : Str), ("TextError" : Str)), false), ((("AxisError" : Str), ("TensorError" : Str)), true), ((("AxisError" : Str), ("MachineError" : Str)), false), ((("AxisError" : Str), ("FormError" : Str)), false), ((("AxisError" : Str), ("RangeError" : Str)), false), ((("AxisError" : Str), ("TextError" : Str)), false), ((("KindError" : Str), ("TensorError" : Str)), true), ((("KindError" : Str), ("MachineError" : Str)), false), ((("KindError" : Str), ("FormError" : Str)), false), ((("KindError" : Str), ("RangeError" : Str)), false), ((("KindError" : Str), ("TextError" : Str)), false)], gcd := [], subT := [], dic := [("OFFSETS", c_OFFSETS), ("SLOTS", c_SLOTS), ("ARGS", c_ARGS), ("FIELDS", c_FIELDS), ("LENGTHS", c_LENGTHS), ("AXIS_FIELDS", c_AXIS_FIELDS)] }
def gl : List Str := [("check_machine" : Str), ("steps_in" : Str), ("fits_width" : Str), ("loop_in_range" : Str), ("fields_in_range" : Str), ("own_in_range" : Str), ("in_range" : Str), ("check_skip" : Str), ("depths_of" : Str), ("well_formed" : Str), ("check_code" : Str), ("read_integer" : Str), ("number_in_listing" : Str), ("kind_in" : Str), ("group_in" : Str), ("do_in" : Str), ("instruction_in" : Str), ("read_code" : Str), ("count_of" : Str), ("size_on" : Str), ("node_work" : Str), ("total_work" : Str), ("corners" : Str), ("round_off" : Str), ("limit" : Str), ("pointwise_span" : Str), ("other_span" : Str), ("letters_of" : Str), ("check_letters" : Str), ("check_shape" : Str), ("in_place_of" : Str), ("resized" : Str), ("without" : Str), ("spread_together" : Str), ("raw_shape" : Str), ("broadcast" : Str), ("shape_of" : Str), ("check_extents" : Str), ("same_but" : Str), ("check_axes" : Str), ("within" : Str), ("check_fields" : Str), ("check_form" : Str), ("domain_of" : Str), ("check_graph" : Str), ("number_in_notation" : Str), ("letter_in" : Str), ("letters_in" : Str), ("read_natural" : Str), ("shape_in" : Str), ("fields_in" : Str), ("node_in" : Str), ("read_graph" : Str), ("_law_told" : Str), ("_law_graphs" : Str), ("_law_lines" : Str), ("_law_codes" : Str), ("_law_machines" : Str), ("law" : Str)]
def fn : List He.DefD := [dD "check_machine" (top 23), dD "steps_in" (top 38), dD "fits_width" (top 24), dD "loop_in_range" (top 35), dD "fields_in_range" (top 20), dD "own_in_range" (top 36), dD "in_range" (top 37), dD "check_skip" (top 34), dD "depths_of" (top 33), dD "well_formed" (top 32), dD "check_code" (top 39), dD "read_integer" (top 42), dA "number_in_listing" "number_in" (top 46), dD "kind_in" (top 48), dD "group_in" (top 49), dD "do_in" (top 50), dD "instruction_in" (top 51), dD "read_code" (top 52), dD "count_of" (top 57), dD "size_on" (top 59), dD "node_work" (top 83), dD "total_work" (top 84), dD "corners" (top 78), dD "round_off" (top 19), dD "limit" (top 18), dD "pointwise_span" (top 79), dD "other_span" (top 80), dD "letters_of" (top 58), dD "check_letters" (top 60), dD "check_shape" (top 61), dD "in_place_of" (top 75), dD "resized" (top 73), dD "without" (top 74), dD "spread_together" (top 62), dD "raw_shape" (top 76), dD "broadcast" (top 63), dD "shape_of" (top 77), dD "check_extents" (top 72), dD "same_but" (top 70), dD "check_axes" (top 71), dD "within" (top 68), dD "check_fields" (top 69), dD "check_form" (top 67), dD "domain_of" (top 81), dD "check_graph" (top 85), dA "number_in_notation" "number_in" (top 90), dD "letter_in" (top 92), dD "letters_in" (top 93), dD "read_natural" (top 43), dD "shape_in" (top 94), dD "fields_in" (top 95), dD "node_in" (top 96), dD "read_graph" (top 97), dD "_law_told" (top 99), dD "_law_graphs" (top 103), dD "_law_lines" (top 102), dD "_law_codes" (top 101), dD "_law_machines" (top 100), dD "law" (top 104)]
def subO (x c : Str) : Option Bool := if tb.exc.contains c = true then subLook c x tb.sub else none
def isE (c x : Str) (i : Nat) : EM := match (match subLook c x tb.sub with
  | some b => some (cE (.bl b))
  | none => (match subLook c x tb.subT with
    | some b => some (cE (.bl b))
    | none => none)) with
  | some m => m
  | none => nA (f2 isiF) (consA (vE i) (consA stuckE nilA))
/-! ### the defs -/
-- check_machine: 0 machine, 1 k
def b_check_machine_0 : SM := seqS (ifS (orT (tbT (b2E ltF (b2E ixF (vE 0) (vE 1)) (b2E ixF (b2E ixF (cE c_LIMITS) (vE 1)) (cE (.int 0))))) (tbT (b2E gtF (b2E ixF (vE 0) (vE 1)) (b2E ixF (b2E ixF (cE c_LIMITS) (vE 1)) (cE (.int 1)))))) (seqS (raiseS "MachineError") (nextS)) (nextS)) (nextS)
def s_check_machine : SM := seqS (forS (rngE rangeF1 (consA (cE (.int 5)) (nilA))) (.one 1) b_check_machine_0) (nextS)
def f_check_machine : Fn := runF s_check_machine 1 2
-- steps_in: 0 code, 1 totals, 2 counts, 3 instruction, 4 inner
def b_steps_in_0 : SM := seqS (ifS (tbT (b2E eqF (b2E ixF (vE 3) (cE (.int 0))) (cE (.str "loop")))) (seqS (exprS (mtE "list" appF (vE 1) (consA (cE (.int 0)) (nilA)))) (seqS (exprS (mtE "list" appF (vE 2) (consA (b2E ixF (vE 3) (cE (.int 4))) (nilA)))) (nextS))) (seqS (ifS (tbT (b2E eqF (b2E ixF (vE 3) (cE (.int 0))) (cE (.str "end")))) (seqS (asgS (mtE "list" popF (vE 1) (nilA)) (.one 4)) (seqS (sixS (b2E addF (b2E addF (b2E ixF (vE 1) (u1E negF (cE (.int 1)))) (cE (.int 1))) (b2E mulF (mtE "list" popF (vE 2) (nilA)) (b2E addF (vE 4) (cE (.int 1))))) (vE 1) (u1E negF (cE (.int 1)))) (nextS))) (seqS (sixS (b2E addF (b2E ixF (vE 1) (u1E negF (cE (.int 1)))) (cE (.int 1))) (vE 1) (u1E negF (cE (.int 1)))) (nextS))) (nextS))) (nextS)
def s_steps_in : SM := seqS (asgS (nA lstF (consA (cE (.int 0)) (nilA))) (.one 1)) (seqS (asgS (nA lstF (consA (cE (.int 1)) (nilA))) (.one 2)) (seqS (forS (srcE (vE 0)) (.one 3) b_steps_in_0) (seqS (retS (b2E ixF (vE 1) (cE (.int 0)))) (nextS))))
def f_steps_in : Fn := runF s_steps_in 1 5
-- fits_width: 0 width, 1 n
def s_fits_width : SM := seqS (retS (chE leF ltF (u1E negF (b2E shlF (cE (.int 1)) (b2E subF (vE 0) (cE (.int 1))))) (vE 1) (b2E shlF (cE (.int 1)) (b2E subF (vE 0) (cE (.int 1)))))) (nextS)
def f_fits_width : Fn := runF s_fits_width 2 2
-- loop_in_range: 0 width, 1 instruction, 2 start, 3 step, 4 count, 5 wide
def s_loop_in_range : SM := seqS (asgS (slE (vE 1) (someO (cE (.int 2))) (someO (cE (.int 5)))) (.many [2, 3, 4])) (seqS (asgS (b2E shlF (cE (.int 1)) (vE 0)) (.one 5)) (seqS (ifS (orT (notT (tbT (chE leF leF (cE (.int 1)) (vE 4) (cE (.int 1000))))) (orT (notT (tbT (chE leF leF (u1E negF (vE 5)) (vE 2) (vE 5)))) (notT (tbT (chE leF leF (u1E negF (vE 5)) (vE 3) (vE 5)))))) (seqS (retS (cE (.bl false))) (nextS)) (nextS)) (seqS (retS (andE (nA (callF 2 f_fits_width) (consA (vE 0) (consA (vE 2) (nilA)))) (nA (callF 2 f_fits_width) (consA (vE 0) (consA (b2E addF (vE 2) (b2E mulF (vE 3) (b2E subF (vE 4) (cE (.int 1))))) (nilA)))))) (nextS))))
def f_loop_in_range : Fn := runF s_loop_in_range 2 6
-- fields_in_range: 0 kind, 1 info
def s_fields_in_range : SM := seqS (ifS (tbT (b2E eqF (vE 0) (cE (.str "clamp")))) (seqS (retS (ch3E leF leF leF (u1E negF (cE c_WIDEST)) (b2E ixF (vE 1) (cE (.int 0))) (b2E ixF (vE 1) (cE (.int 1))) (cE c_WIDEST))) (nextS)) (nextS)) (seqS (ifS (tbT (b2E eqF (vE 0) (cE (.str "shift")))) (seqS (retS (chE leF leF (cE (.int 1)) (b2E ixF (vE 1) (cE (.int 0))) (cE (.int 30)))) (nextS)) (nextS)) (seqS (retS (cE (.bl true))) (nextS)))
def f_fields_in_range : Fn := runF s_fields_in_range 2 2
-- own_in_range: 0 machine, 1 instruction, 2 width, 3 main, 4 near, 5 queues, 6 lanes, 7 name, 8 good, 9 s, 10 n
def e_own_in_range_0 : EM := nA (callF 2 f_fits_width) (consA (vE 2) (consA (vE 10) (nilA)))
def e_own_in_range_1 : EM := chE leF leF (cE (.int 0)) (vE 9) (cE (.int 31))
def s_own_in_range : SM := seqS (asgS (vE 0) (.many [2, 3, 4, 5, 6])) (seqS (asgS (b2E ixF (vE 1) (cE (.int 0))) (.one 7)) (seqS (ifS (tbT (b2E eqF (vE 7) (cE (.str "set")))) (seqS (retS (nA (callF 2 f_fits_width) (consA (vE 2) (consA (b2E ixF (vE 1) (cE (.int 2))) (nilA))))) (nextS)) (nextS)) (seqS (ifS (tbT (b2E eqF (vE 7) (cE (.str "do")))) (seqS (asgS (andE (nA (f1 allF) (consA (compXE (srcE (b2E ixF (vE 1) (cE (.int 3)))) [9] (.one 9) yesT e_own_in_range_1) (nilA))) (nA (callF 2 f_fields_in_range) (consA (b2E ixF (vE 1) (cE (.int 1))) (consA (b2E ixF (vE 1) (cE (.int 4))) (nilA))))) (.one 8)) (seqS (ifS (tbT (b2E eqF (b2E ixF (vE 1) (cE (.int 1))) (cE (.str "clamp")))) (seqS (asgS (andE (vE 8) (nA (f1 allF) (consA (compXE (srcE (b2E ixF (vE 1) (cE (.int 4)))) [10] (.one 10) yesT e_own_in_range_0) (nilA)))) (.one 8)) (nextS)) (nextS)) (seqS (retS (vE 8)) (nextS)))) (nextS)) (seqS (ifS (tbT (b2E eqF (vE 7) (cE (.str "mac")))) (seqS (retS (chE leF leF (cE (.int 1)) (b2E ixF (vE 1) (cE (.int 6))) (vE 6))) (nextS)) (nextS)) (seqS (ifS (tbT (b2E eqF (vE 7) (cE (.str "vector")))) (seqS (retS (chE leF leF (cE (.int 1)) (b2E ixF (vE 1) (cE (.int 5))) (vE 6))) (nextS)) (nextS)) (seqS (ifS (tbT (b2E eqF (vE 7) (cE (.str "loop")))) (seqS (retS (nA (callF 2 f_loop_in_range) (consA (vE 2) (consA (vE 1) (nilA))))) (nextS)) (nextS)) (seqS (ifS (tbT (b2E eqF (vE 7) (cE (.str "skip")))) (seqS (retS (chE leF leF (cE (.int 0)) (b2E ixF (vE 1) (cE (.int 2))) (cE c_CODE_LIMIT))) (nextS)) (nextS)) (seqS (ifS (tbT (b2E inF (vE 7) (nA tupF (consA (cE (.str "in")) (consA (cE (.str "out")) (nilA)))))) (seqS (retS (andE (chE leF ltF (cE (.int 0)) (b2E ixF (vE 1) (cE (.int 1))) (vE 5)) (chE leF leF (cE (.int 1)) (b2E ixF (vE 1) (cE (.int 6))) (cE (.int 4096))))) (nextS)) (nextS)) (seqS (ifS (tbT (b2E eqF (vE 7) (cE (.str "wait")))) (seqS (retS (chE leF ltF (cE (.int 0)) (b2E ixF (vE 1) (cE (.int 1))) (vE 5))) (nextS)) (nextS)) (seqS (retS (cE (.bl true))) (nextS)))))))))))
def f_own_in_range : Fn := runF s_own_in_range 2 11
-- in_range: 0 machine, 1 instruction, 2 name, 3 k
def e_in_range_0 : EM := chE leF leF (u1E negF (cE (.int 16384))) (b2E ixF (vE 1) (vE 3)) (cE (.int 16384))
def e_in_range_1 : EM := chE leF leF (cE (.int 0)) (b2E ixF (vE 1) (vE 3)) (cE (.int 31))
def s_in_range : SM := seqS (asgS (b2E ixF (vE 1) (cE (.int 0))) (.one 2)) (seqS (ifS (notT (trT (nA (f1 allF) (consA (compXE (srcE (b2E (dIx "SLOTS" c_SLOTS) (cE (.glb "SLOTS")) (vE 2))) [3] (.one 3) yesT e_in_range_1) (nilA))))) (seqS (retS (cE (.bl false))) (nextS)) (nextS)) (seqS (ifS (notT (trT (nA (f1 allF) (consA (compXE (srcE (b2E (dIx "OFFSETS" c_OFFSETS) (cE (.glb "OFFSETS")) (vE 2))) [3] (.one 3) yesT e_in_range_0) (nilA))))) (seqS (retS (cE (.bl false))) (nextS)) (nextS)) (seqS (retS (nA (callF 2 f_own_in_range) (consA (vE 0) (consA (vE 1) (nilA))))) (nextS))))
def f_in_range : Fn := runF s_in_range 2 4
-- check_skip: 0 code, 1 at, 2 depth, 3 k
def b_check_skip_0 : SM := seqS (ifS (tbT (b2E geF (vE 3) (nA (f1 lenF) (consA (vE 0) (nilA))))) (seqS (raiseS "FormError") (nextS)) (nextS)) (seqS (ifS (tbT (b2E eqF (b2E ixF (b2E ixF (vE 0) (vE 3)) (cE (.int 0))) (cE (.str "loop")))) (seqS (asgS (b2E addF (vE 2) (cE (.int 1))) (.one 2)) (nextS)) (seqS (ifS (tbT (b2E eqF (b2E ixF (b2E ixF (vE 0) (vE 3)) (cE (.int 0))) (cE (.str "end")))) (seqS (asgS (b2E subF (vE 2) (cE (.int 1))) (.one 2)) (nextS)) (nextS)) (nextS))) (seqS (ifS (tbT (b2E ltF (vE 2) (cE (.int 0)))) (seqS (raiseS "FormError") (nextS)) (nextS)) (nextS)))
def s_check_skip : SM := seqS (asgS (cE (.int 0)) (.one 2)) (seqS (forS (rngE rangeF2 (consA (b2E addF (vE 1) (cE (.int 1))) (consA (b2E addF (b2E addF (vE 1) (cE (.int 1))) (nA (f2 max2F) (consA (cE (.int 0)) (consA (b2E ixF (b2E ixF (vE 0) (vE 1)) (cE (.int 2))) (nilA))))) (nilA)))) (.one 3) b_check_skip_0) (seqS (ifS (tbT (b2E neF (vE 2) (cE (.int 0)))) (seqS (raiseS "FormError") (nextS)) (nextS)) (nextS)))
def f_check_skip : Fn := runF s_check_skip 2 4
-- depths_of: 0 code, 1 depths, 2 depth, 3 instruction
def b_depths_of_0 : SM := seqS (ifS (tbT (b2E eqF (b2E ixF (vE 3) (cE (.int 0))) (cE (.str "end")))) (seqS (asgS (b2E subF (vE 2) (cE (.int 1))) (.one 2)) (seqS (ifS (tbT (b2E ltF (vE 2) (cE (.int 0)))) (seqS (raiseS "FormError") (nextS)) (nextS)) (nextS))) (nextS)) (seqS (exprS (mtE "list" appF (vE 1) (consA (vE 2) (nilA)))) (seqS (ifS (tbT (b2E eqF (b2E ixF (vE 3) (cE (.int 0))) (cE (.str "loop")))) (seqS (asgS (b2E addF (vE 2) (cE (.int 1))) (.one 2)) (nextS)) (nextS)) (nextS)))
def s_depths_of : SM := seqS (asgS (nA lstF (nilA)) (.one 1)) (seqS (asgS (cE (.int 0)) (.one 2)) (seqS (forS (srcE (vE 0)) (.one 3) b_depths_of_0) (seqS (ifS (tbT (b2E neF (vE 2) (cE (.int 0)))) (seqS (raiseS "FormError") (nextS)) (nextS)) (seqS (retS (vE 1)) (nextS)))))
def f_depths_of : Fn := runF s_depths_of 1 4
-- well_formed: 0 instruction, 1 kind
def s_well_formed : SM := seqS (ifS (orT (tbT (b2E eqF (nA (f1 lenF) (consA (vE 0) (nilA))) (cE (.int 0)))) (tbT (b2E (dNotIn "LENGTHS" c_LENGTHS) (b2E ixF (vE 0) (cE (.int 0))) (cE (.glb "LENGTHS"))))) (seqS (retS (cE (.bl false))) (nextS)) (nextS)) (seqS (ifS (tbT (b2E neF (nA (f1 lenF) (consA (vE 0) (nilA))) (b2E (dIx "LENGTHS" c_LENGTHS) (cE (.glb "LENGTHS")) (b2E ixF (vE 0) (cE (.int 0)))))) (seqS (retS (cE (.bl false))) (nextS)) (nextS)) (seqS (ifS (tbT (b2E eqF (b2E ixF (vE 0) (cE (.int 0))) (cE (.str "do")))) (seqS (asgS (b2E ixF (vE 0) (cE (.int 1))) (.one 1)) (seqS (ifS (tbT (b2E notInF (vE 1) (cE c_POINTWISE))) (seqS (retS (cE (.bl false))) (nextS)) (nextS)) (seqS (retS (andE (b2E eqF (nA (f1 lenF) (consA (b2E ixF (vE 0) (cE (.int 3))) (nilA))) (b2E (dIx "ARGS" c_ARGS) (cE (.glb "ARGS")) (vE 1))) (b2E eqF (nA (f1 lenF) (consA (b2E ixF (vE 0) (cE (.int 4))) (nilA))) (b2E (dIx "FIELDS" c_FIELDS) (cE (.glb "FIELDS")) (vE 1))))) (nextS)))) (nextS)) (seqS (ifS (tbT (b2E eqF (b2E ixF (vE 0) (cE (.int 0))) (cE (.str "vector")))) (seqS (retS (andE (b2E inF (b2E ixF (vE 0) (cE (.int 1))) (cE c_POINTWISE)) (b2E eqF (b2E (dIx "ARGS" c_ARGS) (cE (.glb "ARGS")) (b2E ixF (vE 0) (cE (.int 1)))) (cE (.int 2))))) (nextS)) (nextS)) (seqS (retS (cE (.bl true))) (nextS)))))
def f_well_formed : Fn := runF s_well_formed 1 2
-- check_code: 0 machine, 1 code, 2 instruction, 3 depths, 4 at
def b_check_code_0 : SM := seqS (ifS (notT (trT (nA (callF 2 f_in_range) (consA (vE 0) (consA (vE 2) (nilA)))))) (seqS (raiseS "RangeError") (nextS)) (nextS)) (nextS)
def b_check_code_1 : SM := seqS (ifS (tbT (b2E eqF (b2E ixF (b2E ixF (vE 1) (vE 4)) (cE (.int 0))) (cE (.str "skip")))) (seqS (exprS (nA (callF 2 f_check_skip) (consA (vE 1) (consA (vE 4) (nilA))))) (nextS)) (nextS)) (nextS)
def b_check_code_2 : SM := seqS (ifS (notT (trT (nA (callF 1 f_well_formed) (consA (vE 2) (nilA))))) (seqS (raiseS "FormError") (nextS)) (nextS)) (nextS)
def s_check_code : SM := seqS (exprS (nA (callF 1 f_check_machine) (consA (vE 0) (nilA)))) (seqS (forS (srcE (vE 1)) (.one 2) b_check_code_2) (seqS (asgS (nA (callF 1 f_depths_of) (consA (vE 1) (nilA))) (.one 3)) (seqS (forS (rngE rangeF1 (consA (nA (f1 lenF) (consA (vE 1) (nilA))) (nilA))) (.one 4) b_check_code_1) (seqS (forS (srcE (vE 1)) (.one 2) b_check_code_0) (seqS (ifS (orT (tbT (b2E gtF (nA (f1 lenF) (consA (vE 1) (nilA))) (cE c_CODE_LIMIT))) (orT (tbT (b2E gtF (nA (f1 max1F) (consA (b2E addF (nA lstF (consA (cE (.int 0)) (nilA))) (vE 3)) (nilA))) (cE c_NEST_LIMIT))) (tbT (b2E gtF (nA (callF 1 f_steps_in) (consA (vE 1) (nilA))) (cE c_EXECUTION_LIMIT))))) (seqS (raiseS "TooLarge") (nextS)) (nextS)) (nextS))))))
def f_check_code : Fn := runF s_check_code 2 5
-- read_integer: 0 word, 1 most, 2 digits, 3 sign
def b_read_integer_0 : SM := seqS (ifS (tbT (b2E notInF (vE 3) (cE c_FIGURES))) (seqS (retS (cE (.non))) (nextS)) (nextS)) (nextS)
def s_read_integer : SM := seqS (asgS (vE 0) (.one 2)) (seqS (ifS (tbT (b2E eqF (slE (vE 0) (noO) (someO (cE (.int 1)))) (cE (.str "-")))) (seqS (asgS (slE (vE 0) (someO (cE (.int 1))) (noO)) (.one 2)) (nextS)) (nextS)) (seqS (ifS (orT (tbT (b2E eqF (vE 2) (cE (.str "")))) (tbT (b2E gtF (nA (f1 lenF) (consA (vE 2) (nilA))) (vE 1)))) (seqS (retS (cE (.non))) (nextS)) (nextS)) (seqS (forS (srcE (vE 2)) (.one 3) b_read_integer_0) (seqS (ifS (andT (tbT (b2E eqF (b2E ixF (vE 2) (cE (.int 0))) (cE (.str "0")))) (orT (tbT (b2E gtF (nA (f1 lenF) (consA (vE 2) (nilA))) (cE (.int 1)))) (tbT (b2E gtF (nA (f1 lenF) (consA (vE 0) (nilA))) (cE (.int 1)))))) (seqS (retS (cE (.non))) (nextS)) (nextS)) (seqS (retS (nA (f1 intF) (consA (vE 0) (nilA)))) (nextS))))))
def f_read_integer : Fn := runF s_read_integer 2 4
-- number_in_listing: 0 word, 1 n
def s_number_in_listing : SM := seqS (asgS (nA (callF 2 f_read_integer) (consA (vE 0) (consA (cE c_FIGURE_LIMIT_listing) (nilA)))) (.one 1)) (seqS (ifS (tbT (b2E isF (vE 1) (cE (.non)))) (seqS (raiseS "TextError") (nextS)) (nextS)) (seqS (retS (vE 1)) (nextS)))
def f_number_in_listing : Fn := runF s_number_in_listing 1 2
-- kind_in: 0 word
def s_kind_in : SM := seqS (ifS (tbT (b2E notInF (vE 0) (cE c_POINTWISE))) (seqS (raiseS "TextError") (nextS)) (nextS)) (seqS (retS (vE 0)) (nextS))
def f_kind_in : Fn := runF s_kind_in 1 1
-- group_in: 0 words, 1 many, 2 word
def e_group_in_0 : EM := nA (callF 1 f_number_in_listing) (consA (vE 2) (nilA))
def s_group_in : SM := seqS (ifS (tbT (b2E eqF (nA (f1 lenF) (consA (vE 0) (nilA))) (cE (.int 0)))) (seqS (raiseS "TextError") (nextS)) (nextS)) (seqS (asgS (nA (callF 1 f_number_in_listing) (consA (b2E ixF (vE 0) (cE (.int 0))) (nilA))) (.one 1)) (seqS (ifS (orT (tbT (b2E ltF (vE 1) (cE (.int 0)))) (tbT (b2E gtF (vE 1) (b2E subF (nA (f1 lenF) (consA (vE 0) (nilA))) (cE (.int 1)))))) (seqS (raiseS "TextError") (nextS)) (nextS)) (seqS (retS (nA tupF (consA (nA (f1 tupleF) (consA (compXE (srcE (slE (vE 0) (someO (cE (.int 1))) (someO (b2E addF (cE (.int 1)) (vE 1))))) [2] (.one 2) yesT e_group_in_0) (nilA))) (consA (slE (vE 0) (someO (b2E addF (cE (.int 1)) (vE 1))) (noO)) (nilA))))) (nextS))))
def f_group_in : Fn := runF s_group_in 1 3
-- do_in: 0 words, 1 kind, 2 d, 3 sources, 4 rest, 5 info
def s_do_in : SM := seqS (ifS (tbT (b2E ltF (nA (f1 lenF) (consA (vE 0) (nilA))) (cE (.int 3)))) (seqS (raiseS "TextError") (nextS)) (nextS)) (seqS (asgS (nA (callF 1 f_kind_in) (consA (b2E ixF (vE 0) (cE (.int 1))) (nilA))) (.one 1)) (seqS (asgS (nA (callF 1 f_number_in_listing) (consA (b2E ixF (vE 0) (cE (.int 2))) (nilA))) (.one 2)) (seqS (asgS (nA (callF 1 f_group_in) (consA (slE (vE 0) (someO (cE (.int 3))) (noO)) (nilA))) (.many [3, 4])) (seqS (asgS (nA (callF 1 f_group_in) (consA (vE 4) (nilA))) (.many [5, 4])) (seqS (ifS (tbT (b2E gtF (nA (f1 lenF) (consA (vE 4) (nilA))) (cE (.int 0)))) (seqS (raiseS "TextError") (nextS)) (nextS)) (seqS (retS (nA tupF (consA (cE (.str "do")) (consA (vE 1) (consA (vE 2) (consA (vE 3) (consA (vE 5) (nilA)))))))) (nextS)))))))
def f_do_in : Fn := runF s_do_in 1 6
-- instruction_in: 0 line, 1 words, 2 name, 3 word
def e_instruction_in_0 : EM := nA (callF 1 f_number_in_listing) (consA (vE 3) (nilA))
def e_instruction_in_1 : EM := nA (callF 1 f_number_in_listing) (consA (vE 3) (nilA))
def s_instruction_in : SM := seqS (asgS (mtE "str" splitF (vE 0) (consA (cE (.str " ")) (nilA))) (.one 1)) (seqS (asgS (b2E ixF (vE 1) (cE (.int 0))) (.one 2)) (seqS (ifS (tbT (b2E (dNotIn "LENGTHS" c_LENGTHS) (vE 2) (cE (.glb "LENGTHS")))) (seqS (raiseS "TextError") (nextS)) (nextS)) (seqS (ifS (tbT (b2E eqF (vE 2) (cE (.str "do")))) (seqS (retS (nA (callF 1 f_do_in) (consA (vE 1) (nilA)))) (nextS)) (nextS)) (seqS (ifS (tbT (b2E neF (nA (f1 lenF) (consA (vE 1) (nilA))) (b2E (dIx "LENGTHS" c_LENGTHS) (cE (.glb "LENGTHS")) (vE 2)))) (seqS (raiseS "TextError") (nextS)) (nextS)) (seqS (ifS (tbT (b2E eqF (vE 2) (cE (.str "vector")))) (seqS (retS (b2E addF (nA tupF (consA (vE 2) (consA (nA (callF 1 f_kind_in) (consA (b2E ixF (vE 1) (cE (.int 1))) (nilA))) (nilA)))) (nA (f1 tupleF) (consA (compXE (srcE (slE (vE 1) (someO (cE (.int 2))) (noO))) [3] (.one 3) yesT e_instruction_in_1) (nilA))))) (nextS)) (nextS)) (seqS (retS (b2E addF (nA tupF (consA (vE 2) (nilA))) (nA (f1 tupleF) (consA (compXE (srcE (slE (vE 1) (someO (cE (.int 1))) (noO))) [3] (.one 3) yesT e_instruction_in_0) (nilA))))) (nextS)))))))
def f_instruction_in : Fn := runF s_instruction_in 1 4
-- read_code: 0 machine, 1 text, 2 lines, 3 code, 4 line
def e_read_code_0 : EM := nA (callF 1 f_instruction_in) (consA (vE 4) (nilA))
def s_read_code : SM := seqS (exprS (nA (callF 1 f_check_machine) (consA (vE 0) (nilA)))) (seqS (asgS (mtE "str" splitF (vE 1) (consA (cE (.str "\n")) (nilA))) (.one 2)) (seqS (ifS (tbT (b2E neF (b2E ixF (vE 2) (u1E negF (cE (.int 1)))) (cE (.str "")))) (seqS (raiseS "TextError") (nextS)) (nextS)) (seqS (asgS (nA (f1 tupleF) (consA (compXE (srcE (slE (vE 2) (noO) (someO (u1E negF (cE (.int 1)))))) [4] (.one 4) yesT e_read_code_0) (nilA))) (.one 3)) (seqS (exprS (nA (callF 2 f_check_code) (consA (vE 0) (consA (vE 3) (nilA))))) (seqS (retS (vE 3)) (nextS))))))
def f_read_code : Fn := runF s_read_code 2 5
-- count_of: 0 shape, 1 count, 2 axis
def b_count_of_0 : SM := seqS (asgS (b2E mulF (vE 1) (b2E ixF (vE 2) (cE (.int 1)))) (.one 1)) (nextS)
def s_count_of : SM := seqS (asgS (cE (.int 1)) (.one 1)) (seqS (forS (srcE (vE 0)) (.one 2) b_count_of_0) (seqS (retS (vE 1)) (nextS)))
def f_count_of : Fn := runF s_count_of 1 3
-- size_on: 0 shape, 1 letter, 2 axis
def b_size_on_0 : SM := seqS (ifS (tbT (b2E eqF (b2E ixF (vE 2) (cE (.int 0))) (vE 1))) (seqS (retS (b2E ixF (vE 2) (cE (.int 1)))) (nextS)) (nextS)) (nextS)
def s_size_on : SM := seqS (forS (srcE (vE 0)) (.one 2) b_size_on_0) (seqS (retS (cE (.int 0))) (nextS))
def f_size_on : Fn := runF s_size_on 2 3
-- node_work: 0 node, 1 domains, 2 shape, 3 kind, 4 args, 5 info
def s_node_work : SM := seqS (asgS (vE 0) (.many [3, 4, 5])) (seqS (ifS (tbT (b2E inF (vE 3) (nA tupF (consA (cE (.str "input")) (consA (cE (.str "const")) (nilA)))))) (seqS (retS (cE (.int 0))) (nextS)) (nextS)) (seqS (ifS (tbT (b2E inF (vE 3) (nA tupF (consA (cE (.str "sum")) (consA (cE (.str "peak")) (consA (cE (.str "fold")) (nilA))))))) (seqS (retS (nA (callF 1 f_count_of) (consA (b2E ixF (b2E ixF (vE 1) (b2E ixF (vE 4) (cE (.int 0)))) (cE (.int 0))) (nilA)))) (nextS)) (nextS)) (seqS (ifS (tbT (b2E eqF (vE 3) (cE (.str "dot")))) (seqS (retS (b2E mulF (nA (callF 1 f_count_of) (consA (vE 2) (nilA))) (nA (callF 2 f_size_on) (consA (b2E ixF (b2E ixF (vE 1) (b2E ixF (vE 4) (cE (.int 0)))) (cE (.int 0))) (consA (b2E ixF (vE 5) (cE (.int 0))) (nilA)))))) (nextS)) (nextS)) (seqS (retS (nA (callF 1 f_count_of) (consA (vE 2) (nilA)))) (nextS)))))
def f_node_work : Fn := runF s_node_work 3 6
-- total_work: 0 nodes, 1 domains, 2 work, 3 k
def b_total_work_0 : SM := seqS (asgS (b2E addF (vE 2) (nA (callF 3 f_node_work) (consA (b2E ixF (vE 0) (vE 3)) (consA (vE 1) (consA (b2E ixF (b2E ixF (vE 1) (vE 3)) (cE (.int 0))) (nilA)))))) (.one 2)) (nextS)
def s_total_work : SM := seqS (asgS (cE (.int 0)) (.one 2)) (seqS (forS (rngE rangeF1 (consA (nA (f1 lenF) (consA (vE 0) (nilA))) (nilA))) (.one 3) b_total_work_0) (seqS (retS (vE 2)) (nextS)))
def f_total_work : Fn := runF s_total_work 2 4
-- corners: 0 a, 1 b, 2 products
def s_corners : SM := seqS (asgS (nA lstF (consA (b2E mulF (b2E ixF (vE 0) (cE (.int 0))) (b2E ixF (vE 1) (cE (.int 0)))) (consA (b2E mulF (b2E ixF (vE 0) (cE (.int 0))) (b2E ixF (vE 1) (cE (.int 1)))) (consA (b2E mulF (b2E ixF (vE 0) (cE (.int 1))) (b2E ixF (vE 1) (cE (.int 0)))) (consA (b2E mulF (b2E ixF (vE 0) (cE (.int 1))) (b2E ixF (vE 1) (cE (.int 1)))) (nilA)))))) (.one 2)) (seqS (retS (nA tupF (consA (nA (f1 min1F) (consA (vE 2) (nilA))) (consA (nA (f1 max1F) (consA (vE 2) (nilA))) (nilA))))) (nextS))
def f_corners : Fn := runF s_corners 2 3
-- round_off: 0 n, 1 bits
def s_round_off : SM := seqS (retS (b2E shrF (b2E addF (vE 0) (b2E shlF (cE (.int 1)) (b2E subF (vE 1) (cE (.int 1))))) (vE 1))) (nextS)
def f_round_off : Fn := runF s_round_off 2 2
-- limit: 0 n, 1 low, 2 high
def s_limit : SM := seqS (ifS (tbT (b2E ltF (vE 0) (vE 1))) (seqS (retS (vE 1)) (nextS)) (nextS)) (seqS (ifS (tbT (b2E gtF (vE 0) (vE 2))) (seqS (retS (vE 2)) (nextS)) (nextS)) (seqS (retS (vE 0)) (nextS)))
def f_limit : Fn := runF s_limit 3 3
-- pointwise_span: 0 kind, 1 info, 2 spans, 3 l, 4 h, 5 p, 6 q
def s_pointwise_span : SM := seqS (asgS (b2E ixF (vE 2) (cE (.int 0))) (.many [3, 4])) (seqS (ifS (tbT (b2E eqF (vE 0) (cE (.str "neg")))) (seqS (retS (nA tupF (consA (u1E negF (vE 4)) (consA (u1E negF (vE 3)) (nilA))))) (nextS)) (nextS)) (seqS (ifS (tbT (b2E eqF (vE 0) (cE (.str "clamp")))) (seqS (retS (nA tupF (consA (nA (callF 3 f_limit) (consA (vE 3) (consA (b2E ixF (vE 1) (cE (.int 0))) (consA (b2E ixF (vE 1) (cE (.int 1))) (nilA))))) (consA (nA (callF 3 f_limit) (consA (vE 4) (consA (b2E ixF (vE 1) (cE (.int 0))) (consA (b2E ixF (vE 1) (cE (.int 1))) (nilA))))) (nilA))))) (nextS)) (nextS)) (seqS (ifS (tbT (b2E eqF (vE 0) (cE (.str "shift")))) (seqS (retS (nA tupF (consA (nA (callF 2 f_round_off) (consA (vE 3) (consA (b2E ixF (vE 1) (cE (.int 0))) (nilA)))) (consA (nA (callF 2 f_round_off) (consA (vE 4) (consA (b2E ixF (vE 1) (cE (.int 0))) (nilA)))) (nilA))))) (nextS)) (nextS)) (seqS (asgS (b2E ixF (vE 2) (cE (.int 1))) (.many [5, 6])) (seqS (ifS (tbT (b2E eqF (vE 0) (cE (.str "add")))) (seqS (retS (nA tupF (consA (b2E addF (vE 3) (vE 5)) (consA (b2E addF (vE 4) (vE 6)) (nilA))))) (nextS)) (nextS)) (seqS (ifS (tbT (b2E eqF (vE 0) (cE (.str "sub")))) (seqS (retS (nA tupF (consA (b2E subF (vE 3) (vE 6)) (consA (b2E subF (vE 4) (vE 5)) (nilA))))) (nextS)) (nextS)) (seqS (ifS (tbT (b2E eqF (vE 0) (cE (.str "mul")))) (seqS (retS (nA (callF 2 f_corners) (consA (b2E ixF (vE 2) (cE (.int 0))) (consA (b2E ixF (vE 2) (cE (.int 1))) (nilA))))) (nextS)) (nextS)) (seqS (ifS (tbT (b2E eqF (vE 0) (cE (.str "max")))) (seqS (retS (nA tupF (consA (nA (f2 max2F) (consA (vE 3) (consA (vE 5) (nilA)))) (consA (nA (f2 max2F) (consA (vE 4) (consA (vE 6) (nilA)))) (nilA))))) (nextS)) (nextS)) (seqS (ifS (tbT (b2E eqF (vE 0) (cE (.str "min")))) (seqS (retS (nA tupF (consA (nA (f2 min2F) (consA (vE 3) (consA (vE 5) (nilA)))) (consA (nA (f2 min2F) (consA (vE 4) (consA (vE 6) (nilA)))) (nilA))))) (nextS)) (nextS)) (seqS (ifS (tbT (b2E eqF (vE 0) (cE (.str "where")))) (seqS (retS (nA tupF (consA (nA (f2 min2F) (consA (vE 5) (consA (b2E ixF (b2E ixF (vE 2) (cE (.int 2))) (cE (.int 0))) (nilA)))) (consA (nA (f2 max2F) (consA (vE 6) (consA (b2E ixF (b2E ixF (vE 2) (cE (.int 2))) (cE (.int 1))) (nilA)))) (nilA))))) (nextS)) (nextS)) (seqS (retS (nA tupF (consA (cE (.int 0)) (consA (cE (.int 1)) (nilA))))) (nextS))))))))))))
def f_pointwise_span : Fn := runF s_pointwise_span 3 7
-- other_span: 0 kind, 1 info, 2 shapes, 3 spans, 4 l, 5 h, 6 size, 7 low, 8 high
def s_other_span : SM := seqS (ifS (tbT (b2E eqF (vE 0) (cE (.str "input")))) (seqS (retS (nA tupF (consA (b2E ixF (vE 1) (cE (.int 1))) (consA (b2E ixF (vE 1) (cE (.int 2))) (nilA))))) (nextS)) (nextS)) (seqS (ifS (tbT (b2E eqF (vE 0) (cE (.str "const")))) (seqS (retS (nA tupF (consA (nA (f1 min1F) (consA (b2E ixF (vE 1) (cE (.int 1))) (nilA))) (consA (nA (f1 max1F) (consA (b2E ixF (vE 1) (cE (.int 1))) (nilA))) (nilA))))) (nextS)) (nextS)) (seqS (asgS (b2E ixF (vE 3) (cE (.int 0))) (.many [4, 5])) (seqS (ifS (tbT (b2E eqF (vE 0) (cE (.str "sum")))) (seqS (retS (nA tupF (consA (b2E mulF (nA (callF 2 f_size_on) (consA (b2E ixF (vE 2) (cE (.int 0))) (consA (b2E ixF (vE 1) (cE (.int 0))) (nilA)))) (vE 4)) (consA (b2E mulF (nA (callF 2 f_size_on) (consA (b2E ixF (vE 2) (cE (.int 0))) (consA (b2E ixF (vE 1) (cE (.int 0))) (nilA)))) (vE 5)) (nilA))))) (nextS)) (nextS)) (seqS (ifS (tbT (b2E eqF (vE 0) (cE (.str "dot")))) (seqS (asgS (nA (callF 2 f_size_on) (consA (b2E ixF (vE 2) (cE (.int 0))) (consA (b2E ixF (vE 1) (cE (.int 0))) (nilA)))) (.one 6)) (seqS (asgS (nA (callF 2 f_corners) (consA (b2E ixF (vE 3) (cE (.int 0))) (consA (b2E ixF (vE 3) (cE (.int 1))) (nilA)))) (.many [7, 8])) (seqS (retS (nA tupF (consA (b2E mulF (vE 6) (vE 7)) (consA (b2E mulF (vE 6) (vE 8)) (nilA))))) (nextS)))) (nextS)) (seqS (ifS (tbT (b2E eqF (vE 0) (cE (.str "pad")))) (seqS (retS (nA tupF (consA (nA (f2 min2F) (consA (vE 4) (consA (cE (.int 0)) (nilA)))) (consA (nA (f2 max2F) (consA (vE 5) (consA (cE (.int 0)) (nilA)))) (nilA))))) (nextS)) (nextS)) (seqS (ifS (tbT (b2E eqF (vE 0) (cE (.str "join")))) (seqS (retS (nA tupF (consA (nA (f2 min2F) (consA (vE 4) (consA (b2E ixF (b2E ixF (vE 3) (cE (.int 1))) (cE (.int 0))) (nilA)))) (consA (nA (f2 max2F) (consA (vE 5) (consA (b2E ixF (b2E ixF (vE 3) (cE (.int 1))) (cE (.int 1))) (nilA)))) (nilA))))) (nextS)) (nextS)) (seqS (ifS (tbT (b2E eqF (vE 0) (cE (.str "fold")))) (seqS (asgS (nA (callF 2 f_size_on) (consA (b2E ixF (vE 2) (cE (.int 0))) (consA (b2E ixF (vE 1) (cE (.int 1))) (nilA)))) (.one 6)) (seqS (retS (nA tupF (consA (nA (f2 min2F) (consA (b2E mulF (vE 6) (vE 4)) (consA (cE (.int 0)) (nilA)))) (consA (nA (f2 max2F) (consA (b2E mulF (vE 6) (vE 5)) (consA (cE (.int 0)) (nilA)))) (nilA))))) (nextS))) (nextS)) (seqS (retS (nA tupF (consA (vE 4) (consA (vE 5) (nilA))))) (nextS)))))))))
def f_other_span : Fn := runF s_other_span 4 9
-- letters_of: 0 shape, 1 axis
def e_letters_of_0 : EM := b2E ixF (vE 1) (cE (.int 0))
def s_letters_of : SM := seqS (retS (mtE "str" joinF (cE (.str "")) (consA (compXE (srcE (vE 0)) [1] (.one 1) yesT e_letters_of_0) (nilA)))) (nextS)
def f_letters_of : Fn := runF s_letters_of 1 2
-- check_letters: 0 shape, 1 letters, 2 k
def b_check_letters_0 : SM := seqS (ifS (tbT (b2E inF (b2E ixF (vE 1) (vE 2)) (slE (vE 1) (noO) (someO (vE 2))))) (seqS (raiseS "AxisError") (nextS)) (nextS)) (nextS)
def s_check_letters : SM := seqS (asgS (nA (callF 1 f_letters_of) (consA (vE 0) (nilA))) (.one 1)) (seqS (forS (rngE rangeF1 (consA (nA (f1 lenF) (consA (vE 1) (nilA))) (nilA))) (.one 2) b_check_letters_0) (nextS))
def f_check_letters : Fn := runF s_check_letters 1 3
-- check_shape: 0 shape, 1 axis
def b_check_shape_0 : SM := seqS (ifS (orT (tbT (b2E ltF (b2E ixF (vE 1) (cE (.int 1))) (cE (.int 1)))) (tbT (b2E gtF (b2E ixF (vE 1) (cE (.int 1))) (cE c_SIZE_LIMIT)))) (seqS (raiseS "RangeError") (nextS)) (nextS)) (nextS)
def s_check_shape : SM := seqS (ifS (tbT (b2E gtF (nA (f1 lenF) (consA (vE 0) (nilA))) (cE c_RANK_LIMIT))) (seqS (raiseS "RankError") (nextS)) (nextS)) (seqS (exprS (nA (callF 1 f_check_letters) (consA (vE 0) (nilA)))) (seqS (forS (srcE (vE 0)) (.one 1) b_check_shape_0) (seqS (ifS (tbT (b2E gtF (nA (callF 1 f_count_of) (consA (vE 0) (nilA))) (cE c_COUNT_LIMIT))) (seqS (raiseS "TooLarge") (nextS)) (nextS)) (nextS))))
def f_check_shape : Fn := runF s_check_shape 1 2
-- in_place_of: 0 shape, 1 letter, 2 others, 3 result, 4 axis
def b_in_place_of_0 : SM := seqS (ifS (tbT (b2E eqF (b2E ixF (vE 4) (cE (.int 0))) (vE 1))) (seqS (asgS (b2E addF (vE 3) (nA (f1 listF) (consA (vE 2) (nilA)))) (.one 3)) (nextS)) (seqS (exprS (mtE "list" appF (vE 3) (consA (vE 4) (nilA)))) (nextS))) (nextS)
def s_in_place_of : SM := seqS (asgS (nA lstF (nilA)) (.one 3)) (seqS (forS (srcE (vE 0)) (.one 4) b_in_place_of_0) (seqS (retS (nA (f1 tupleF) (consA (vE 3) (nilA)))) (nextS)))
def f_in_place_of : Fn := runF s_in_place_of 3 5
-- resized: 0 shape, 1 letter, 2 size, 3 axis
def e_resized_0 : EM := nA tupF (consA (b2E ixF (vE 3) (cE (.int 0))) (consA (ifE (tbT (b2E eqF (b2E ixF (vE 3) (cE (.int 0))) (vE 1))) (vE 2) (b2E ixF (vE 3) (cE (.int 1)))) (nilA)))
def s_resized : SM := seqS (retS (nA (f1 tupleF) (consA (compXE (srcE (vE 0)) [3] (.one 3) yesT e_resized_0) (nilA)))) (nextS)
def f_resized : Fn := runF s_resized 3 4
-- without: 0 shape, 1 letter, 2 axis
def e_without_0 : EM := vE 2
def t_without_0 : TM := tbT (b2E neF (b2E ixF (vE 2) (cE (.int 0))) (vE 1))
def s_without : SM := seqS (retS (nA (f1 tupleF) (consA (compXE (srcE (vE 0)) [2] (.one 2) t_without_0 e_without_0) (nilA)))) (nextS)
def f_without : Fn := runF s_without 2 3
-- spread_together: 0 first, 1 second, 2 result, 3 axis, 4 size
def b_spread_together_0 : SM := seqS (asgS (nA (callF 2 f_size_on) (consA (vE 0) (consA (b2E ixF (vE 3) (cE (.int 0))) (nilA)))) (.one 4)) (seqS (ifS (tbT (b2E eqF (vE 4) (cE (.int 0)))) (seqS (exprS (mtE "list" appF (vE 2) (consA (vE 3) (nilA)))) (nextS)) (seqS (ifS (tbT (b2E neF (vE 4) (b2E ixF (vE 3) (cE (.int 1))))) (seqS (raiseS "AxisError") (nextS)) (nextS)) (nextS))) (nextS))
def s_spread_together : SM := seqS (asgS (nA (f1 listF) (consA (vE 0) (nilA))) (.one 2)) (seqS (forS (srcE (vE 1)) (.one 3) b_spread_together_0) (seqS (retS (nA (f1 tupleF) (consA (vE 2) (nilA)))) (nextS)))
def f_spread_together : Fn := runF s_spread_together 2 5
-- raw_shape: 0 kind, 1 info, 2 shapes, 3 a, 4 size, 5 letter
def e_raw_shape_0 : EM := nA tupF (consA (vE 5) (consA (nA (callF 2 f_size_on) (consA (vE 3) (consA (vE 5) (nilA)))) (nilA)))
def s_raw_shape : SM := seqS (asgS (b2E ixF (vE 2) (cE (.int 0))) (.one 3)) (seqS (asgS (ifE (andT (tbT (b2E neF (vE 0) (cE (.str "spread")))) (tbT (b2E neF (vE 0) (cE (.str "order"))))) (nA (callF 2 f_size_on) (consA (vE 3) (consA (b2E ixF (vE 1) (cE (.int 0))) (nilA)))) (cE (.int 0))) (.one 4)) (seqS (ifS (tbT (b2E inF (vE 0) (nA tupF (consA (cE (.str "sum")) (consA (cE (.str "peak")) (nilA)))))) (seqS (retS (nA (callF 2 f_without) (consA (vE 3) (consA (b2E ixF (vE 1) (cE (.int 0))) (nilA))))) (nextS)) (nextS)) (seqS (ifS (tbT (b2E eqF (vE 0) (cE (.str "dot")))) (seqS (retS (nA (callF 2 f_without) (consA (nA (callF 2 f_spread_together) (consA (vE 3) (consA (b2E ixF (vE 2) (cE (.int 1))) (nilA)))) (consA (b2E ixF (vE 1) (cE (.int 0))) (nilA))))) (nextS)) (nextS)) (seqS (ifS (tbT (b2E eqF (vE 0) (cE (.str "order")))) (seqS (retS (nA (f1 tupleF) (consA (compXE (srcE (b2E ixF (vE 1) (cE (.int 0)))) [5] (.one 5) yesT e_raw_shape_0) (nilA)))) (nextS)) (nextS)) (seqS (ifS (tbT (b2E eqF (vE 0) (cE (.str "rename")))) (seqS (retS (nA (callF 3 f_in_place_of) (consA (vE 3) (consA (b2E ixF (vE 1) (cE (.int 0))) (consA (nA tupF (consA (nA tupF (consA (b2E ixF (vE 1) (cE (.int 1))) (consA (vE 4) (nilA)))) (nilA))) (nilA)))))) (nextS)) (nextS)) (seqS (ifS (tbT (b2E eqF (vE 0) (cE (.str "spread")))) (seqS (retS (b2E addF (vE 3) (nA tupF (consA (nA tupF (consA (b2E ixF (vE 1) (cE (.int 0))) (consA (b2E ixF (vE 1) (cE (.int 1))) (nilA)))) (nilA))))) (nextS)) (nextS)) (seqS (ifS (tbT (b2E eqF (vE 0) (cE (.str "cut")))) (seqS (retS (nA (callF 3 f_resized) (consA (vE 3) (consA (b2E ixF (vE 1) (cE (.int 0))) (consA (b2E ixF (vE 1) (cE (.int 2))) (nilA)))))) (nextS)) (nextS)) (seqS (ifS (tbT (b2E eqF (vE 0) (cE (.str "pad")))) (seqS (retS (nA (callF 3 f_resized) (consA (vE 3) (consA (b2E ixF (vE 1) (cE (.int 0))) (consA (b2E addF (b2E addF (b2E ixF (vE 1) (cE (.int 1))) (vE 4)) (b2E ixF (vE 1) (cE (.int 2)))) (nilA)))))) (nextS)) (nextS)) (seqS (ifS (tbT (b2E eqF (vE 0) (cE (.str "join")))) (seqS (retS (nA (callF 3 f_resized) (consA (vE 3) (consA (b2E ixF (vE 1) (cE (.int 0))) (consA (b2E addF (vE 4) (nA (callF 2 f_size_on) (consA (b2E ixF (vE 2) (cE (.int 1))) (consA (b2E ixF (vE 1) (cE (.int 0))) (nilA))))) (nilA)))))) (nextS)) (nextS)) (seqS (ifS (tbT (b2E eqF (vE 0) (cE (.str "window")))) (seqS (retS (nA (callF 3 f_in_place_of) (consA (vE 3) (consA (b2E ixF (vE 1) (cE (.int 0))) (consA (nA tupF (consA (nA tupF (consA (b2E ixF (vE 1) (cE (.int 0))) (consA (b2E addF (b2E fdivF (b2E subF (vE 4) (b2E ixF (vE 1) (cE (.int 2)))) (b2E ixF (vE 1) (cE (.int 3)))) (cE (.int 1))) (nilA)))) (consA (nA tupF (consA (b2E ixF (vE 1) (cE (.int 1))) (consA (b2E ixF (vE 1) (cE (.int 2))) (nilA)))) (nilA)))) (nilA)))))) (nextS)) (nextS)) (seqS (ifS (tbT (b2E eqF (vE 0) (cE (.str "fold")))) (seqS (retS (nA (callF 3 f_resized) (consA (nA (callF 2 f_without) (consA (vE 3) (consA (b2E ixF (vE 1) (cE (.int 1))) (nilA)))) (consA (b2E ixF (vE 1) (cE (.int 0))) (consA (b2E ixF (vE 1) (cE (.int 3))) (nilA)))))) (nextS)) (nextS)) (seqS (retS (nA (callF 3 f_in_place_of) (consA (vE 3) (consA (b2E ixF (vE 1) (cE (.int 0))) (consA (b2E ixF (vE 2) (cE (.int 1))) (nilA)))))) (nextS)))))))))))))
def f_raw_shape : Fn := runF s_raw_shape 3 6
-- broadcast: 0 first, 1 second, 2 result
def s_broadcast : SM := seqS (asgS (nA (callF 2 f_spread_together) (consA (vE 0) (consA (vE 1) (nilA)))) (.one 2)) (seqS (exprS (nA (callF 1 f_check_shape) (consA (vE 2) (nilA)))) (seqS (retS (vE 2)) (nextS)))
def f_broadcast : Fn := runF s_broadcast 2 3
-- shape_of: 0 kind, 1 info, 2 shapes, 3 result, 4 other
def b_shape_of_0 : SM := seqS (asgS (nA (callF 2 f_broadcast) (consA (vE 3) (consA (vE 4) (nilA)))) (.one 3)) (nextS)
def s_shape_of : SM := seqS (ifS (tbT (b2E inF (vE 0) (nA tupF (consA (cE (.str "input")) (consA (cE (.str "const")) (nilA)))))) (seqS (retS (b2E ixF (vE 1) (cE (.int 0)))) (nextS)) (nextS)) (seqS (ifS (tbT (b2E inF (vE 0) (cE c_BROADCAST))) (seqS (asgS (b2E ixF (vE 2) (cE (.int 0))) (.one 3)) (seqS (forS (srcE (slE (vE 2) (someO (cE (.int 1))) (noO))) (.one 4) b_shape_of_0) (seqS (retS (vE 3)) (nextS)))) (nextS)) (seqS (ifS (tbT (b2E inF (vE 0) (nA tupF (consA (cE (.str "neg")) (consA (cE (.str "clamp")) (consA (cE (.str "shift")) (nilA))))))) (seqS (retS (b2E ixF (vE 2) (cE (.int 0)))) (nextS)) (nextS)) (seqS (asgS (nA (callF 3 f_raw_shape) (consA (vE 0) (consA (vE 1) (consA (vE 2) (nilA))))) (.one 3)) (seqS (exprS (nA (callF 1 f_check_shape) (consA (vE 3) (nilA)))) (seqS (retS (vE 3)) (nextS))))))
def f_shape_of : Fn := runF s_shape_of 3 5
-- check_extents: 0 kind, 1 info, 2 shapes, 3 good, 4 count
def s_check_extents : SM := seqS (asgS (cE (.bl true)) (.one 3)) (seqS (ifS (tbT (b2E eqF (vE 0) (cE (.str "cut")))) (seqS (asgS (b2E leF (b2E addF (b2E ixF (vE 1) (cE (.int 1))) (b2E ixF (vE 1) (cE (.int 2)))) (nA (callF 2 f_size_on) (consA (b2E ixF (vE 2) (cE (.int 0))) (consA (b2E ixF (vE 1) (cE (.int 0))) (nilA))))) (.one 3)) (nextS)) (seqS (ifS (tbT (b2E eqF (vE 0) (cE (.str "window")))) (seqS (asgS (b2E leF (b2E ixF (vE 1) (cE (.int 2))) (nA (callF 2 f_size_on) (consA (b2E ixF (vE 2) (cE (.int 0))) (consA (b2E ixF (vE 1) (cE (.int 0))) (nilA))))) (.one 3)) (nextS)) (seqS (ifS (tbT (b2E eqF (vE 0) (cE (.str "fold")))) (seqS (asgS (nA (callF 2 f_size_on) (consA (b2E ixF (vE 2) (cE (.int 0))) (consA (b2E ixF (vE 1) (cE (.int 0))) (nilA)))) (.one 4)) (seqS (asgS (b2E leF (b2E addF (b2E mulF (b2E ixF (vE 1) (cE (.int 2))) (b2E subF (vE 4) (cE (.int 1)))) (nA (callF 2 f_size_on) (consA (b2E ixF (vE 2) (cE (.int 0))) (consA (b2E ixF (vE 1) (cE (.int 1))) (nilA))))) (b2E ixF (vE 1) (cE (.int 3)))) (.one 3)) (nextS))) (nextS)) (nextS))) (nextS))) (seqS (ifS (notT (trT (vE 3))) (seqS (raiseS "RangeError") (nextS)) (nextS)) (nextS)))
def f_check_extents : Fn := runF s_check_extents 3 5
-- same_but: 0 first, 1 second, 2 letter, 3 k
def b_same_but_0 : SM := seqS (ifS (andT (tbT (b2E neF (b2E ixF (b2E ixF (vE 0) (vE 3)) (cE (.int 0))) (vE 2))) (tbT (b2E neF (b2E ixF (b2E ixF (vE 0) (vE 3)) (cE (.int 1))) (b2E ixF (b2E ixF (vE 1) (vE 3)) (cE (.int 1)))))) (seqS (retS (cE (.bl false))) (nextS)) (nextS)) (nextS)
def s_same_but : SM := seqS (ifS (tbT (b2E neF (nA (callF 1 f_letters_of) (consA (vE 0) (nilA))) (nA (callF 1 f_letters_of) (consA (vE 1) (nilA))))) (seqS (retS (cE (.bl false))) (nextS)) (nextS)) (seqS (forS (rngE rangeF1 (consA (nA (f1 lenF) (consA (vE 0) (nilA))) (nilA))) (.one 3) b_same_but_0) (seqS (retS (cE (.bl true))) (nextS)))
def f_same_but : Fn := runF s_same_but 3 4
-- check_axes: 0 kind, 1 info, 2 shapes, 3 names, 4 good, 5 letter
def e_check_axes_0 : EM := b2E inF (vE 5) (nA (f1 listF) (consA (vE 3) (nilA)))
def s_check_axes : SM := seqS (ifS (tbT (b2E inF (vE 0) (nA tupF (consA (cE (.str "input")) (consA (cE (.str "const")) (nilA)))))) (seqS (retNS) (nextS)) (nextS)) (seqS (asgS (nA (callF 1 f_letters_of) (consA (b2E ixF (vE 2) (cE (.int 0))) (nilA))) (.one 3)) (seqS (asgS (cE (.bl true)) (.one 4)) (seqS (ifS (tbT (b2E inF (vE 0) (cE c_WITH_AXIS))) (seqS (asgS (b2E inF (b2E ixF (vE 1) (cE (.int 0))) (nA (f1 listF) (consA (vE 3) (nilA)))) (.one 4)) (nextS)) (nextS)) (seqS (ifS (tbT (b2E inF (vE 0) (nA tupF (consA (cE (.str "dot")) (consA (cE (.str "join")) (nilA)))))) (seqS (asgS (andE (vE 4) (b2E inF (b2E ixF (vE 1) (cE (.int 0))) (nA (f1 listF) (consA (nA (callF 1 f_letters_of) (consA (b2E ixF (vE 2) (cE (.int 1))) (nilA))) (nilA))))) (.one 4)) (nextS)) (nextS)) (seqS (ifS (tbT (b2E eqF (vE 0) (cE (.str "order")))) (seqS (asgS (b2E eqF (nA (f1 sortedF) (consA (b2E ixF (vE 1) (cE (.int 0))) (nilA))) (nA (f1 sortedF) (consA (vE 3) (nilA)))) (.one 4)) (nextS)) (seqS (ifS (tbT (b2E inF (vE 0) (nA tupF (consA (cE (.str "rename")) (consA (cE (.str "window")) (nilA)))))) (seqS (asgS (andE (vE 4) (b2E notInF (b2E ixF (vE 1) (cE (.int 1))) (nA (f1 listF) (consA (vE 3) (nilA))))) (.one 4)) (nextS)) (seqS (ifS (tbT (b2E eqF (vE 0) (cE (.str "spread")))) (seqS (asgS (b2E notInF (b2E ixF (vE 1) (cE (.int 0))) (nA (f1 listF) (consA (vE 3) (nilA)))) (.one 4)) (nextS)) (seqS (ifS (tbT (b2E eqF (vE 0) (cE (.str "fold")))) (seqS (asgS (andE (vE 4) (andE (b2E inF (b2E ixF (vE 1) (cE (.int 1))) (nA (f1 listF) (consA (vE 3) (nilA)))) (b2E neF (b2E ixF (vE 1) (cE (.int 1))) (b2E ixF (vE 1) (cE (.int 0)))))) (.one 4)) (nextS)) (seqS (ifS (tbT (b2E eqF (vE 0) (cE (.str "join")))) (seqS (asgS (andE (vE 4) (nA (callF 3 f_same_but) (consA (b2E ixF (vE 2) (cE (.int 0))) (consA (b2E ixF (vE 2) (cE (.int 1))) (consA (b2E ixF (vE 1) (cE (.int 0))) (nilA)))))) (.one 4)) (nextS)) (seqS (ifS (tbT (b2E eqF (vE 0) (cE (.str "gather")))) (seqS (asgS (andE (vE 4) (u1E notF (nA (f1 anyF) (consA (compXE (srcE (nA (callF 1 f_letters_of) (consA (b2E ixF (vE 2) (cE (.int 1))) (nilA)))) [5] (.one 5) yesT e_check_axes_0) (nilA))))) (.one 4)) (nextS)) (nextS)) (nextS))) (nextS))) (nextS))) (nextS))) (nextS))) (seqS (ifS (notT (trT (vE 4))) (seqS (raiseS "AxisError") (nextS)) (nextS)) (nextS)))))))
def f_check_axes : Fn := runF s_check_axes 3 6
-- within: 0 numbers, 1 low, 2 high, 3 n
def b_within_0 : SM := seqS (ifS (orT (tbT (b2E ltF (vE 3) (vE 1))) (tbT (b2E gtF (vE 3) (vE 2)))) (seqS (retS (cE (.bl false))) (nextS)) (nextS)) (nextS)
def s_within : SM := seqS (forS (srcE (vE 0)) (.one 3) b_within_0) (seqS (retS (cE (.bl true))) (nextS))
def f_within : Fn := runF s_within 3 4
-- check_fields: 0 kind, 1 info, 2 good
def s_check_fields : SM := seqS (asgS (nA (callF 2 f_fields_in_range) (consA (vE 0) (consA (vE 1) (nilA)))) (.one 2)) (seqS (ifS (tbT (b2E eqF (vE 0) (cE (.str "input")))) (seqS (asgS (b2E leF (b2E ixF (vE 1) (cE (.int 1))) (b2E ixF (vE 1) (cE (.int 2)))) (.one 2)) (nextS)) (seqS (ifS (tbT (b2E eqF (vE 0) (cE (.str "spread")))) (seqS (asgS (nA (callF 3 f_within) (consA (slE (vE 1) (someO (cE (.int 1))) (noO)) (consA (cE (.int 1)) (consA (cE (.int 16)) (nilA))))) (.one 2)) (nextS)) (seqS (ifS (tbT (b2E eqF (vE 0) (cE (.str "cut")))) (seqS (asgS (andE (nA (callF 3 f_within) (consA (slE (vE 1) (someO (cE (.int 1))) (someO (cE (.int 2)))) (consA (cE (.int 0)) (consA (cE (.int 16)) (nilA))))) (nA (callF 3 f_within) (consA (slE (vE 1) (someO (cE (.int 2))) (noO)) (consA (cE (.int 1)) (consA (cE (.int 16)) (nilA)))))) (.one 2)) (nextS)) (seqS (ifS (tbT (b2E eqF (vE 0) (cE (.str "pad")))) (seqS (asgS (nA (callF 3 f_within) (consA (slE (vE 1) (someO (cE (.int 1))) (noO)) (consA (cE (.int 0)) (consA (cE (.int 16)) (nilA))))) (.one 2)) (nextS)) (seqS (ifS (orT (tbT (b2E eqF (vE 0) (cE (.str "window")))) (tbT (b2E eqF (vE 0) (cE (.str "fold"))))) (seqS (asgS (nA (callF 3 f_within) (consA (slE (vE 1) (someO (cE (.int 2))) (noO)) (consA (cE (.int 1)) (consA (cE (.int 16)) (nilA))))) (.one 2)) (nextS)) (nextS)) (nextS))) (nextS))) (nextS))) (nextS))) (seqS (ifS (notT (trT (vE 2))) (seqS (raiseS "RangeError") (nextS)) (nextS)) (nextS)))
def f_check_fields : Fn := runF s_check_fields 2 3
-- check_form: 0 node, 1 domains, 2 kind, 3 args, 4 info, 5 arg
def b_check_form_0 : SM := seqS (ifS (orT (tbT (b2E ltF (vE 5) (cE (.int 0)))) (tbT (b2E geF (vE 5) (nA (f1 lenF) (consA (vE 1) (nilA)))))) (seqS (raiseS "FormError") (nextS)) (nextS)) (nextS)
def s_check_form : SM := seqS (asgS (vE 0) (.many [2, 3, 4])) (seqS (ifS (tbT (b2E (dNotIn "ARGS" c_ARGS) (vE 2) (cE (.glb "ARGS")))) (seqS (raiseS "KindError") (nextS)) (nextS)) (seqS (ifS (orT (tbT (b2E neF (nA (f1 lenF) (consA (vE 3) (nilA))) (b2E (dIx "ARGS" c_ARGS) (cE (.glb "ARGS")) (vE 2)))) (tbT (b2E neF (nA (f1 lenF) (consA (vE 4) (nilA))) (b2E (dIx "FIELDS" c_FIELDS) (cE (.glb "FIELDS")) (vE 2))))) (seqS (raiseS "FormError") (nextS)) (nextS)) (seqS (ifS (andT (tbT (b2E eqF (vE 2) (cE (.str "const")))) (tbT (b2E neF (nA (f1 lenF) (consA (b2E ixF (vE 4) (cE (.int 1))) (nilA))) (nA (callF 1 f_count_of) (consA (b2E ixF (vE 4) (cE (.int 0))) (nilA)))))) (seqS (raiseS "FormError") (nextS)) (nextS)) (seqS (forS (srcE (vE 3)) (.one 5) b_check_form_0) (nextS)))))
def f_check_form : Fn := runF s_check_form 2 6
-- domain_of: 0 node, 1 domains, 2 kind, 3 args, 4 info, 5 shapes, 6 spans, 7 shape, 8 low, 9 high, 10 arg
def e_domain_of_0 : EM := nA tupF (consA (b2E ixF (b2E ixF (vE 1) (vE 10)) (cE (.int 1))) (consA (b2E ixF (b2E ixF (vE 1) (vE 10)) (cE (.int 2))) (nilA)))
def e_domain_of_1 : EM := b2E ixF (b2E ixF (vE 1) (vE 10)) (cE (.int 0))
def s_domain_of : SM := seqS (exprS (nA (callF 2 f_check_form) (consA (vE 0) (consA (vE 1) (nilA))))) (seqS (asgS (vE 0) (.many [2, 3, 4])) (seqS (exprS (nA (callF 2 f_check_fields) (consA (vE 2) (consA (vE 4) (nilA))))) (seqS (ifS (tbT (b2E inF (vE 2) (nA tupF (consA (cE (.str "input")) (consA (cE (.str "const")) (nilA)))))) (seqS (exprS (nA (callF 1 f_check_shape) (consA (b2E ixF (vE 4) (cE (.int 0))) (nilA)))) (nextS)) (nextS)) (seqS (asgS (compXE (srcE (vE 3)) [10] (.one 10) yesT e_domain_of_1) (.one 5)) (seqS (asgS (compXE (srcE (vE 3)) [10] (.one 10) yesT e_domain_of_0) (.one 6)) (seqS (exprS (nA (callF 3 f_check_axes) (consA (vE 2) (consA (vE 4) (consA (vE 5) (nilA)))))) (seqS (exprS (nA (callF 3 f_check_extents) (consA (vE 2) (consA (vE 4) (consA (vE 5) (nilA)))))) (seqS (asgS (nA (callF 3 f_shape_of) (consA (vE 2) (consA (vE 4) (consA (vE 5) (nilA))))) (.one 7)) (seqS (ifS (orT (tbT (b2E inF (vE 2) (cE c_BROADCAST))) (tbT (b2E inF (vE 2) (nA tupF (consA (cE (.str "neg")) (consA (cE (.str "clamp")) (consA (cE (.str "shift")) (nilA)))))))) (seqS (asgS (nA (callF 3 f_pointwise_span) (consA (vE 2) (consA (vE 4) (consA (vE 6) (nilA))))) (.many [8, 9])) (nextS)) (seqS (asgS (nA (callF 4 f_other_span) (consA (vE 2) (consA (vE 4) (consA (vE 5) (consA (vE 6) (nilA)))))) (.many [8, 9])) (nextS))) (seqS (ifS (orT (tbT (b2E ltF (vE 8) (u1E negF (cE c_WIDEST)))) (tbT (b2E gtF (vE 9) (cE c_WIDEST)))) (seqS (raiseS "TooWide") (nextS)) (nextS)) (seqS (retS (nA tupF (consA (vE 7) (consA (vE 8) (consA (vE 9) (nilA)))))) (nextS))))))))))))
def f_domain_of : Fn := runF s_domain_of 2 11
-- check_graph: 0 graph, 1 nodes, 2 outs, 3 domains, 4 node, 5 out
def b_check_graph_0 : SM := seqS (ifS (orT (tbT (b2E ltF (vE 5) (cE (.int 0)))) (tbT (b2E geF (vE 5) (nA (f1 lenF) (consA (vE 1) (nilA)))))) (seqS (raiseS "FormError") (nextS)) (nextS)) (nextS)
def b_check_graph_1 : SM := seqS (exprS (mtE "list" appF (vE 3) (consA (nA (callF 2 f_domain_of) (consA (vE 4) (consA (nA (f1 tupleF) (consA (vE 3) (nilA))) (nilA)))) (nilA)))) (nextS)
def s_check_graph : SM := seqS (asgS (vE 0) (.many [1, 2])) (seqS (ifS (tbT (b2E gtF (nA (f1 lenF) (consA (vE 1) (nilA))) (cE c_NODE_LIMIT))) (seqS (raiseS "TooLarge") (nextS)) (nextS)) (seqS (asgS (nA lstF (nilA)) (.one 3)) (seqS (forS (srcE (vE 1)) (.one 4) b_check_graph_1) (seqS (ifS (tbT (b2E eqF (nA (f1 lenF) (consA (vE 2) (nilA))) (cE (.int 0)))) (seqS (raiseS "FormError") (nextS)) (nextS)) (seqS (forS (srcE (vE 2)) (.one 5) b_check_graph_0) (seqS (ifS (tbT (b2E gtF (nA (callF 2 f_total_work) (consA (vE 1) (consA (vE 3) (nilA)))) (cE c_WORK_LIMIT))) (seqS (raiseS "TooLarge") (nextS)) (nextS)) (seqS (retS (nA (f1 tupleF) (consA (vE 3) (nilA)))) (nextS))))))))
def f_check_graph : Fn := runF s_check_graph 1 6
-- number_in_notation: 0 word, 1 n
def s_number_in_notation : SM := seqS (asgS (nA (callF 2 f_read_integer) (consA (vE 0) (consA (cE c_FIGURE_LIMIT_notation) (nilA)))) (.one 1)) (seqS (ifS (tbT (b2E isF (vE 1) (cE (.non)))) (seqS (raiseS "TextError") (nextS)) (nextS)) (seqS (retS (vE 1)) (nextS)))
def f_number_in_notation : Fn := runF s_number_in_notation 1 2
-- letter_in: 0 word
def s_letter_in : SM := seqS (ifS (orT (tbT (b2E neF (nA (f1 lenF) (consA (vE 0) (nilA))) (cE (.int 1)))) (tbT (b2E notInF (vE 0) (cE c_LETTERS)))) (seqS (raiseS "TextError") (nextS)) (nextS)) (seqS (retS (vE 0)) (nextS))
def f_letter_in : Fn := runF s_letter_in 1 1
-- letters_in: 0 word, 1 sign
def b_letters_in_0 : SM := seqS (exprS (nA (callF 1 f_letter_in) (consA (vE 1) (nilA)))) (nextS)
def s_letters_in : SM := seqS (ifS (tbT (b2E eqF (vE 0) (cE (.str ".")))) (seqS (retS (cE (.str ""))) (nextS)) (nextS)) (seqS (ifS (tbT (b2E eqF (vE 0) (cE (.str "")))) (seqS (raiseS "TextError") (nextS)) (nextS)) (seqS (forS (srcE (vE 0)) (.one 1) b_letters_in_0) (seqS (retS (vE 0)) (nextS))))
def f_letters_in : Fn := runF s_letters_in 1 2
-- read_natural: 0 word, 1 most
def s_read_natural : SM := seqS (ifS (tbT (b2E eqF (slE (vE 0) (noO) (someO (cE (.int 1)))) (cE (.str "-")))) (seqS (retS (cE (.non))) (nextS)) (nextS)) (seqS (retS (nA (callF 2 f_read_integer) (consA (vE 0) (consA (vE 1) (nilA))))) (nextS))
def f_read_natural : Fn := runF s_read_natural 2 2
-- shape_in: 0 word, 1 axes, 2 at, 3 letter, 4 end, 5 size
def b_shape_in_1 : SM := seqS (asgS (b2E addF (vE 4) (cE (.int 1))) (.one 4)) (nextS)
def b_shape_in_0 : SM := seqS (asgS (nA (callF 1 f_letter_in) (consA (b2E ixF (vE 0) (vE 2)) (nilA))) (.one 3)) (seqS (asgS (b2E addF (vE 2) (cE (.int 1))) (.one 4)) (seqS (whileS 1000000 (andT (tbT (b2E ltF (vE 4) (nA (f1 lenF) (consA (vE 0) (nilA))))) (tbT (b2E notInF (b2E ixF (vE 0) (vE 4)) (cE c_LETTERS)))) b_shape_in_1) (seqS (asgS (nA (callF 2 f_read_natural) (consA (slE (vE 0) (someO (b2E addF (vE 2) (cE (.int 1)))) (someO (vE 4))) (consA (cE c_FIGURE_LIMIT_notation) (nilA)))) (.one 5)) (seqS (ifS (tbT (b2E isF (vE 5) (cE (.non)))) (seqS (raiseS "TextError") (nextS)) (nextS)) (seqS (exprS (mtE "list" appF (vE 1) (consA (nA tupF (consA (vE 3) (consA (vE 5) (nilA)))) (nilA)))) (seqS (asgS (vE 4) (.one 2)) (nextS)))))))
def s_shape_in : SM := seqS (ifS (tbT (b2E eqF (vE 0) (cE (.str ".")))) (seqS (retS (nA tupF (nilA))) (nextS)) (nextS)) (seqS (asgS (nA lstF (nilA)) (.one 1)) (seqS (asgS (cE (.int 0)) (.one 2)) (seqS (whileS 1000000 (tbT (b2E ltF (vE 2) (nA (f1 lenF) (consA (vE 0) (nilA))))) b_shape_in_0) (seqS (ifS (tbT (b2E eqF (nA (f1 lenF) (consA (vE 1) (nilA))) (cE (.int 0)))) (seqS (raiseS "TextError") (nextS)) (nextS)) (seqS (retS (nA (f1 tupleF) (consA (vE 1) (nilA)))) (nextS))))))
def f_shape_in : Fn := runF s_shape_in 1 6
-- fields_in: 0 kind, 1 words, 2 fields, 3 k, 4 word
def b_fields_in_0 : SM := seqS (ifS (tbT (b2E ltF (vE 3) (dGt c_AXIS_FIELDS (consA (vE 0) (consA (cE (.int 0)) (nilA)))))) (seqS (exprS (mtE "list" appF (vE 2) (consA (nA (callF 1 f_letter_in) (consA (b2E ixF (vE 1) (vE 3)) (nilA))) (nilA)))) (nextS)) (seqS (exprS (mtE "list" appF (vE 2) (consA (nA (callF 1 f_number_in_notation) (consA (b2E ixF (vE 1) (vE 3)) (nilA))) (nilA)))) (nextS))) (nextS)
def e_fields_in_1 : EM := nA (callF 1 f_number_in_notation) (consA (vE 4) (nilA))
def s_fields_in : SM := seqS (ifS (tbT (b2E eqF (vE 0) (cE (.str "const")))) (seqS (ifS (tbT (b2E eqF (nA (f1 lenF) (consA (vE 1) (nilA))) (cE (.int 0)))) (seqS (raiseS "TextError") (nextS)) (nextS)) (seqS (retS (nA tupF (consA (nA (callF 1 f_shape_in) (consA (b2E ixF (vE 1) (cE (.int 0))) (nilA))) (consA (nA (f1 tupleF) (consA (compXE (srcE (slE (vE 1) (someO (cE (.int 1))) (noO))) [4] (.one 4) yesT e_fields_in_1) (nilA))) (nilA))))) (nextS))) (nextS)) (seqS (ifS (tbT (b2E neF (nA (f1 lenF) (consA (vE 1) (nilA))) (b2E (dIx "FIELDS" c_FIELDS) (cE (.glb "FIELDS")) (vE 0)))) (seqS (raiseS "TextError") (nextS)) (nextS)) (seqS (ifS (tbT (b2E eqF (vE 0) (cE (.str "input")))) (seqS (retS (nA tupF (consA (nA (callF 1 f_shape_in) (consA (b2E ixF (vE 1) (cE (.int 0))) (nilA))) (consA (nA (callF 1 f_number_in_notation) (consA (b2E ixF (vE 1) (cE (.int 1))) (nilA))) (consA (nA (callF 1 f_number_in_notation) (consA (b2E ixF (vE 1) (cE (.int 2))) (nilA))) (nilA)))))) (nextS)) (nextS)) (seqS (ifS (tbT (b2E eqF (vE 0) (cE (.str "order")))) (seqS (retS (nA tupF (consA (nA (callF 1 f_letters_in) (consA (b2E ixF (vE 1) (cE (.int 0))) (nilA))) (nilA)))) (nextS)) (nextS)) (seqS (asgS (nA lstF (nilA)) (.one 2)) (seqS (forS (rngE rangeF1 (consA (nA (f1 lenF) (consA (vE 1) (nilA))) (nilA))) (.one 3) b_fields_in_0) (seqS (retS (nA (f1 tupleF) (consA (vE 2) (nilA)))) (nextS)))))))
def f_fields_in : Fn := runF s_fields_in 2 5
-- node_in: 0 line, 1 words, 2 kind, 3 many, 4 args, 5 word
def e_node_in_0 : EM := nA (callF 1 f_number_in_notation) (consA (vE 5) (nilA))
def s_node_in : SM := seqS (asgS (mtE "str" splitF (vE 0) (consA (cE (.str " ")) (nilA))) (.one 1)) (seqS (asgS (b2E ixF (vE 1) (cE (.int 0))) (.one 2)) (seqS (ifS (tbT (b2E (dNotIn "ARGS" c_ARGS) (vE 2) (cE (.glb "ARGS")))) (seqS (raiseS "TextError") (nextS)) (nextS)) (seqS (asgS (b2E (dIx "ARGS" c_ARGS) (cE (.glb "ARGS")) (vE 2)) (.one 3)) (seqS (ifS (tbT (b2E ltF (nA (f1 lenF) (consA (vE 1) (nilA))) (b2E addF (cE (.int 1)) (vE 3)))) (seqS (raiseS "TextError") (nextS)) (nextS)) (seqS (asgS (nA (f1 tupleF) (consA (compXE (srcE (slE (vE 1) (someO (cE (.int 1))) (someO (b2E addF (cE (.int 1)) (vE 3))))) [5] (.one 5) yesT e_node_in_0) (nilA))) (.one 4)) (seqS (retS (nA tupF (consA (vE 2) (consA (vE 4) (consA (nA (callF 2 f_fields_in) (consA (vE 2) (consA (slE (vE 1) (someO (b2E addF (cE (.int 1)) (vE 3))) (noO)) (nilA)))) (nilA)))))) (nextS)))))))
def f_node_in : Fn := runF s_node_in 1 6
-- read_graph: 0 text, 1 lines, 2 last, 3 nodes, 4 outs, 5 line, 6 word
def e_read_graph_0 : EM := nA (callF 1 f_number_in_notation) (consA (vE 6) (nilA))
def e_read_graph_1 : EM := nA (callF 1 f_node_in) (consA (vE 5) (nilA))
def s_read_graph : SM := seqS (asgS (mtE "str" splitF (vE 0) (consA (cE (.str "\n")) (nilA))) (.one 1)) (seqS (ifS (orT (tbT (b2E ltF (nA (f1 lenF) (consA (vE 1) (nilA))) (cE (.int 2)))) (tbT (b2E neF (b2E ixF (vE 1) (u1E negF (cE (.int 1)))) (cE (.str ""))))) (seqS (raiseS "TextError") (nextS)) (nextS)) (seqS (asgS (mtE "str" splitF (b2E ixF (vE 1) (u1E negF (cE (.int 2)))) (consA (cE (.str " ")) (nilA))) (.one 2)) (seqS (ifS (tbT (b2E neF (b2E ixF (vE 2) (cE (.int 0))) (cE (.str "out")))) (seqS (raiseS "TextError") (nextS)) (nextS)) (seqS (asgS (nA (f1 tupleF) (consA (compXE (srcE (slE (vE 1) (noO) (someO (u1E negF (cE (.int 2)))))) [5] (.one 5) yesT e_read_graph_1) (nilA))) (.one 3)) (seqS (asgS (nA (f1 tupleF) (consA (compXE (srcE (slE (vE 2) (someO (cE (.int 1))) (noO))) [6] (.one 6) yesT e_read_graph_0) (nilA))) (.one 4)) (seqS (exprS (nA (callF 1 f_check_graph) (consA (nA tupF (consA (vE 3) (consA (vE 4) (nilA)))) (nilA)))) (seqS (retS (nA tupF (consA (vE 3) (consA (vE 4) (nilA))))) (nextS))))))))
def f_read_graph : Fn := runF s_read_graph 1 7
-- _law_told: 0 which, 1 one, 2 two, 3 found, 4 e
def b__law_told_1 : SM := seqS (ifS (tbT (b2E eqF (vE 0) (cE (.int 0)))) (seqS (asgS (nA (callF 1 f_check_machine) (consA (vE 1) (nilA))) (.one 3)) (nextS)) (seqS (ifS (tbT (b2E eqF (vE 0) (cE (.int 1)))) (seqS (asgS (nA (callF 2 f_check_code) (consA (vE 1) (consA (vE 2) (nilA)))) (.one 3)) (nextS)) (seqS (ifS (tbT (b2E eqF (vE 0) (cE (.int 2)))) (seqS (asgS (nA (callF 2 f_read_code) (consA (vE 1) (consA (vE 2) (nilA)))) (.one 3)) (nextS)) (seqS (asgS (nA (callF 1 f_read_graph) (consA (vE 2) (nilA))) (.one 3)) (nextS))) (nextS))) (nextS))) (nextS)
def s__law_told : SM := seqS (tryS b__law_told_1 (some 4) (subO "TensorError") fun c => seqS (retS (b2E addF (b2E addF (b2E addF (b2E mulF (cE (.str "machine")) (nA (f1 intF) (consA (isE c "MachineError" 4) (nilA)))) (b2E mulF (cE (.str "form")) (nA (f1 intF) (consA (isE c "FormError" 4) (nilA))))) (b2E mulF (cE (.str "range")) (nA (f1 intF) (consA (isE c "RangeError" 4) (nilA))))) (b2E mulF (cE (.str "text")) (nA (f1 intF) (consA (isE c "TextError" 4) (nilA)))))) (nextS)) (seqS (retS (ifE (tbT (b2E isF (vE 3) (cE (.non)))) (cE (.str "")) (vE 3))) (nextS))
def f__law_told : Fn := runF s__law_told 3 5
-- _law_graphs: 0 base, 1 nodes, 2 at, 3 line, 4 text, 5 form, 6 own
def e__law_graphs_0 : EM := b2E addF (vE 6) (cE (.str "\n"))
def e__law_graphs_1 : EM := b2E eqF (nA (callF 3 f__law_told) (consA (cE (.int 3)) (consA (cE (.int 0)) (consA (mtE "str" joinF (cE (.str "")) (consA (compE (srcE (b2E addF (b2E addF (slE (vE 0) (noO) (someO (vE 2))) (nA lstF (consA (vE 3) (nilA)))) (slE (vE 0) (someO (b2E addF (vE 2) (cE (.int 1)))) (noO)))) [6] (.one 6) yesT e__law_graphs_0) (nilA))) (nilA))))) (cE (.str "form"))
def b__law_graphs_2 : SM := seqS (ifS (tbT (b2E neF (nA (callF 3 f__law_told) (consA (cE (.int 3)) (consA (cE (.int 0)) (consA (vE 4) (nilA))))) (cE (.str "text")))) (seqS (retS (cE (.bl false))) (nextS)) (nextS)) (nextS)
def e__law_graphs_4 : EM := b2E addF (vE 6) (cE (.str "\n"))
def b__law_graphs_3 : SM := seqS (ifS (tbT (b2E neF (nA (callF 3 f__law_told) (consA (cE (.int 3)) (consA (cE (.int 0)) (consA (mtE "str" joinF (cE (.str "")) (consA (compXE (srcE (b2E addF (b2E addF (slE (vE 0) (noO) (someO (vE 2))) (nA lstF (consA (vE 3) (nilA)))) (slE (vE 0) (someO (b2E addF (vE 2) (cE (.int 1)))) (noO)))) [6] (.one 6) yesT e__law_graphs_4) (nilA))) (nilA))))) (cE (.str "text")))) (seqS (retS (cE (.bl false))) (nextS)) (nextS)) (nextS)
def e__law_graphs_5 : EM := b2E addF (vE 3) (cE (.str "\n"))
def e__law_graphs_6 : EM := b2E addF (vE 3) (cE (.str "\n"))
def s__law_graphs : SM := seqS (asgS (nA lstF (consA (cE (.str "input i3k4 -5 9")) (consA (cE (.str "const k4 1 2 3 -4")) (consA (cE (.str "dot 0 1 k")) (consA (cE (.str "out 2")) (nilA)))))) (.one 0)) (seqS (asgS (nA tupF (consA (nA tupF (consA (cE (.str "input")) (consA (nA tupF (nilA)) (consA (nA tupF (consA (nA tupF (consA (nA tupF (consA (cE (.str "i")) (consA (cE (.int 3)) (nilA)))) (consA (nA tupF (consA (cE (.str "k")) (consA (cE (.int 4)) (nilA)))) (nilA)))) (consA (u1E negF (cE (.int 5))) (consA (cE (.int 9)) (nilA))))) (nilA))))) (consA (nA tupF (consA (cE (.str "const")) (consA (nA tupF (nilA)) (consA (nA tupF (consA (nA tupF (consA (nA tupF (consA (cE (.str "k")) (consA (cE (.int 4)) (nilA)))) (nilA))) (consA (nA tupF (consA (cE (.int 1)) (consA (cE (.int 2)) (consA (cE (.int 3)) (consA (u1E negF (cE (.int 4))) (nilA)))))) (nilA)))) (nilA))))) (consA (nA tupF (consA (cE (.str "dot")) (consA (nA tupF (consA (cE (.int 0)) (consA (cE (.int 1)) (nilA)))) (consA (nA tupF (consA (cE (.str "k")) (nilA))) (nilA))))) (nilA))))) (.one 1)) (seqS (ifS (tbT (b2E neF (nA (callF 3 f__law_told) (consA (cE (.int 3)) (consA (cE (.int 0)) (consA (mtE "str" joinF (cE (.str "")) (consA (compXE (srcE (vE 0)) [3] (.one 3) yesT e__law_graphs_6) (nilA))) (nilA))))) (nA tupF (consA (vE 1) (consA (nA tupF (consA (cE (.int 2)) (nilA))) (nilA)))))) (seqS (retS (cE (.bl false))) (nextS)) (nextS)) (seqS (ifS (tbT (b2E neF (nA (callF 3 f__law_told) (consA (cE (.int 3)) (consA (cE (.int 0)) (consA (b2E addF (mtE "str" joinF (cE (.str "")) (consA (compXE (srcE (slE (vE 0) (noO) (someO (cE (.int 3))))) [3] (.one 3) yesT e__law_graphs_5) (nilA))) (cE (.str "out\n"))) (nilA))))) (cE (.str "form")))) (seqS (retS (cE (.bl false))) (nextS)) (nextS)) (seqS (forS (srcE (nA lstF (consA (nA tupF (consA (cE (.int 0)) (consA (cE (.str "input i3k4 -5")) (nilA)))) (consA (nA tupF (consA (cE (.int 0)) (consA (cE (.str "input i3k4 -5 9 9")) (nilA)))) (consA (nA tupF (consA (cE (.int 0)) (consA (cE (.str "input I3 -5 9")) (nilA)))) (consA (nA tupF (consA (cE (.int 0)) (consA (cE (.str "input i -5 9")) (nilA)))) (consA (nA tupF (consA (cE (.int 0)) (consA (cE (.str "input 3i -5 9")) (nilA)))) (consA (nA tupF (consA (cE (.int 0)) (consA (cE (.str "input i03k4 -5 9")) (nilA)))) (consA (nA tupF (consA (cE (.int 0)) (consA (cE (.str "input i3k4 -05 9")) (nilA)))) (consA (nA tupF (consA (cE (.int 0)) (consA (cE (.str "input i3k4 +5 9")) (nilA)))) (consA (nA tupF (consA (cE (.int 0)) (consA (cE (.str "input i3k4 -0 9")) (nilA)))) (consA (nA tupF (consA (cE (.int 0)) (consA (cE (.str "inputs i3k4 -5 9")) (nilA)))) (consA (nA tupF (consA (cE (.int 0)) (consA (cE (.str "input  i3k4 -5 9")) (nilA)))) (consA (nA tupF (consA (cE (.int 0)) (consA (cE (.str "input i3k4 -5 9 ")) (nilA)))) (consA (nA tupF (consA (cE (.int 0)) (consA (cE (.str "")) (nilA)))) (consA (nA tupF (consA (cE (.int 1)) (consA (cE (.str "const 1 2 3 4")) (nilA)))) (consA (nA tupF (consA (cE (.int 1)) (consA (cE (.str "const")) (nilA)))) (consA (nA tupF (consA (cE (.int 1)) (consA (cE (.str "const k4 1 2 x 4")) (nilA)))) (consA (nA tupF (consA (cE (.int 2)) (consA (cE (.str "dot 0 k")) (nilA)))) (consA (nA tupF (consA (cE (.int 2)) (consA (cE (.str "dot 0 1 2 k")) (nilA)))) (consA (nA tupF (consA (cE (.int 2)) (consA (cE (.str "dot 0 1 K")) (nilA)))) (consA (nA tupF (consA (cE (.int 2)) (consA (cE (.str "dot 0 1")) (nilA)))) (consA (nA tupF (consA (cE (.int 2)) (consA (cE (.str "dot 0 1 k k")) (nilA)))) (consA (nA tupF (consA (cE (.int 3)) (consA (cE (.str "outs 2")) (nilA)))) (consA (nA tupF (consA (cE (.int 3)) (consA (cE (.str "out 2 ")) (nilA)))) (consA (nA tupF (consA (cE (.int 3)) (consA (cE (.str "out  2")) (nilA)))) (consA (nA tupF (consA (cE (.int 3)) (consA (cE (.str "out 02")) (nilA)))) (consA (nA tupF (consA (cE (.int 3)) (consA (cE (.str "out x")) (nilA)))) (consA (nA tupF (consA (cE (.int 3)) (consA (cE (.str "dot 0 1 k")) (nilA)))) (nilA)))))))))))))))))))))))))))))) (.many [2, 3]) b__law_graphs_3) (seqS (forS (srcE (nA tupF (consA (cE (.str "")) (consA (cE (.str "\n")) (consA (cE (.str "out 2")) (consA (cE (.str "input i3 1 2\n")) (consA (cE (.str "out\nout\n")) (consA (cE (.str "input i3k4 -5 9\nout 0\ninput i3k4 -5 9\n")) (nilA))))))))) (.one 4) b__law_graphs_2) (seqS (asgS (nA lstF (consA (nA tupF (consA (cE (.int 1)) (consA (cE (.str "const k4 1 2 3")) (nilA)))) (consA (nA tupF (consA (cE (.int 1)) (consA (cE (.str "const k4 1 2 3 4 5")) (nilA)))) (consA (nA tupF (consA (cE (.int 2)) (consA (cE (.str "dot 0 2 k")) (nilA)))) (consA (nA tupF (consA (cE (.int 2)) (consA (cE (.str "dot 0 -1 k")) (nilA)))) (consA (nA tupF (consA (cE (.int 2)) (consA (cE (.str "dot 3 1 k")) (nilA)))) (consA (nA tupF (consA (cE (.int 3)) (consA (cE (.str "out 3")) (nilA)))) (consA (nA tupF (consA (cE (.int 3)) (consA (cE (.str "out -1")) (nilA)))) (consA (nA tupF (consA (cE (.int 3)) (consA (cE (.str "out")) (nilA)))) (nilA)))))))))) (.one 5)) (seqS (retS (nA (f1 allF) (consA (compXE (srcE (vE 5)) [2, 3] (.many [2, 3]) yesT e__law_graphs_1) (nilA)))) (nextS))))))))
def f__law_graphs : Fn := runF s__law_graphs 0 7
-- _law_lines: 0 machine, 1 right, 2 text, 3 due, 4 line
def b__law_lines_0 : SM := seqS (ifS (tbT (b2E neF (nA (callF 3 f__law_told) (consA (cE (.int 2)) (consA (vE 0) (consA (vE 2) (nilA))))) (cE (.str "text")))) (seqS (retS (cE (.bl false))) (nextS)) (nextS)) (nextS)
def b__law_lines_1 : SM := seqS (ifS (tbT (b2E neF (nA (callF 3 f__law_told) (consA (cE (.int 2)) (consA (vE 0) (consA (b2E addF (vE 4) (cE (.str "\n"))) (nilA))))) (cE (.str "text")))) (seqS (retS (cE (.bl false))) (nextS)) (nextS)) (nextS)
def b__law_lines_2 : SM := seqS (ifS (tbT (b2E neF (nA (callF 3 f__law_told) (consA (cE (.int 2)) (consA (vE 0) (consA (vE 2) (nilA))))) (vE 3))) (seqS (retS (cE (.bl false))) (nextS)) (nextS)) (nextS)
def s__law_lines : SM := seqS (asgS (nA tupF (consA (cE (.int 64)) (consA (cE (.int 100)) (consA (cE (.int 50)) (consA (cE (.int 2)) (consA (cE (.int 8)) (nilA))))))) (.one 0)) (seqS (asgS (nA lstF (consA (nA tupF (consA (cE (.str "")) (consA (nA tupF (nilA)) (nilA)))) (consA (nA tupF (consA (cE (.str "set 0 -1\n")) (consA (nA tupF (consA (nA tupF (consA (cE (.str "set")) (consA (cE (.int 0)) (consA (u1E negF (cE (.int 1))) (nilA))))) (nilA))) (nilA)))) (consA (nA tupF (consA (cE (.str "do add 0 2 1 2 0\n")) (consA (nA tupF (consA (nA tupF (consA (cE (.str "do")) (consA (cE (.str "add")) (consA (cE (.int 0)) (consA (nA tupF (consA (cE (.int 1)) (consA (cE (.int 2)) (nilA)))) (consA (nA tupF (nilA)) (nilA))))))) (nilA))) (nilA)))) (consA (nA tupF (consA (cE (.str "do clamp 3 1 2 2 -5 5\n")) (consA (nA tupF (consA (nA tupF (consA (cE (.str "do")) (consA (cE (.str "clamp")) (consA (cE (.int 3)) (consA (nA tupF (consA (cE (.int 2)) (nilA))) (consA (nA tupF (consA (u1E negF (cE (.int 5))) (consA (cE (.int 5)) (nilA)))) (nilA))))))) (nilA))) (nilA)))) (consA (nA tupF (consA (cE (.str "vector add 0 1 2 8\nwait 1\n")) (consA (nA tupF (consA (nA tupF (consA (cE (.str "vector")) (consA (cE (.str "add")) (consA (cE (.int 0)) (consA (cE (.int 1)) (consA (cE (.int 2)) (consA (cE (.int 8)) (nilA)))))))) (consA (nA tupF (consA (cE (.str "wait")) (consA (cE (.int 1)) (nilA)))) (nilA)))) (nilA)))) (consA (nA tupF (consA (cE (.str "loop 0 0 1 2\nend\n")) (consA (nA tupF (consA (nA tupF (consA (cE (.str "loop")) (consA (cE (.int 0)) (consA (cE (.int 0)) (consA (cE (.int 1)) (consA (cE (.int 2)) (nilA))))))) (consA (nA tupF (consA (cE (.str "end")) (nilA))) (nilA)))) (nilA)))) (nilA)))))))) (.one 1)) (seqS (forS (srcE (vE 1)) (.many [2, 3]) b__law_lines_2) (seqS (forS (srcE (nA tupF (consA (cE (.str "set 0")) (consA (cE (.str "set 0 1 2")) (consA (cE (.str "set 00 1")) (consA (cE (.str "set +1 1")) (consA (cE (.str "set  0 1")) (consA (cE (.str " set 0 1")) (consA (cE (.str "set 0 1 ")) (consA (cE (.str "set 0 -0")) (consA (cE (.str "set 0 01")) (consA (cE (.str "set 0 x")) (consA (cE (.str "jump")) (consA (cE (.str "")) (consA (cE (.str "do dot 0 1 1 0")) (consA (cE (.str "do add 0 3 1 2 0")) (consA (cE (.str "do add 0 -1 0")) (consA (cE (.str "do add 0 2 1 2")) (consA (cE (.str "do add 0 2 1 2 1")) (consA (cE (.str "vector dot 0 1 2 3")) (consA (cE (.str "end 1")) (consA (cE (.str "SET 0 1")) (consA (cE (.str "set 0 1	")) (nilA)))))))))))))))))))))))) (.one 4) b__law_lines_1) (seqS (forS (srcE (nA tupF (consA (cE (.str "set 0 1")) (consA (cE (.str "\n")) (consA (cE (.str "set 0 1\n\n")) (consA (cE (.str "set 0 1\nset 0 1")) (nilA))))))) (.one 2) b__law_lines_0) (seqS (retS (andE (b2E eqF (nA (callF 3 f__law_told) (consA (cE (.int 2)) (consA (vE 0) (consA (cE (.str "vector neg 0 1 2 3\n")) (nilA))))) (cE (.str "form"))) (andE (b2E eqF (nA (callF 3 f__law_told) (consA (cE (.int 2)) (consA (vE 0) (consA (cE (.str "set 32 1\n")) (nilA))))) (cE (.str "range"))) (b2E eqF (nA (callF 3 f__law_told) (consA (cE (.int 2)) (consA (vE 0) (consA (cE (.str "do add 0 1 1 0\n")) (nilA))))) (cE (.str "form")))))) (nextS))))))
def f__law_lines : Fn := runF s__law_lines 0 5
-- _law_codes: 0 machine, 1 wide, 2 rows, 3 ins, 4 due, 5 twice, 6 loops, 7 parts, 8 one, 9 turn, 10 blocks, 11 code
def e__law_codes_0 : EM := b2E eqF (nA (callF 3 f__law_told) (consA (cE (.int 1)) (consA (vE 0) (consA (vE 11) (nilA))))) (vE 4)
def b__law_codes_1 : SM := seqS (ifS (tbT (b2E neF (nA (callF 3 f__law_told) (consA (cE (.int 1)) (consA (vE 0) (consA (nA tupF (consA (b2E addF (nA tupF (consA (cE (.str "loop")) (nilA))) (vE 7)) (consA (nA tupF (consA (cE (.str "end")) (nilA))) (nilA)))) (nilA))))) (vE 4))) (seqS (retS (cE (.bl false))) (nextS)) (nextS)) (nextS)
def b__law_codes_2 : SM := seqS (ifS (tbT (b2E neF (nA (callF 3 f__law_told) (consA (cE (.int 1)) (consA (vE 0) (consA (nA tupF (consA (vE 3) (nilA))) (nilA))))) (vE 4))) (seqS (retS (cE (.bl false))) (nextS)) (nextS)) (nextS)
def s__law_codes : SM := seqS (asgS (nA tupF (consA (cE (.int 64)) (consA (cE (.int 100)) (consA (cE (.int 50)) (consA (cE (.int 2)) (consA (cE (.int 8)) (nilA))))))) (.one 0)) (seqS (asgS (b2E shlF (cE (.int 1)) (cE (.int 63))) (.one 1)) (seqS (asgS (nA lstF (consA (nA tupF (consA (nA tupF (consA (cE (.str "set")) (consA (cE (.int 0)) (consA (cE (.int 0)) (nilA))))) (consA (cE (.str "")) (nilA)))) (consA (nA tupF (consA (nA tupF (consA (cE (.str "set")) (consA (cE (.int 31)) (consA (b2E subF (vE 1) (cE (.int 1))) (nilA))))) (consA (cE (.str "")) (nilA)))) (consA (nA tupF (consA (nA tupF (consA (cE (.str "set")) (consA (cE (.int 32)) (consA (cE (.int 0)) (nilA))))) (consA (cE (.str "range")) (nilA)))) (consA (nA tupF (consA (nA tupF (consA (cE (.str "set")) (consA (u1E negF (cE (.int 1))) (consA (cE (.int 0)) (nilA))))) (consA (cE (.str "range")) (nilA)))) (consA (nA tupF (consA (nA tupF (consA (cE (.str "set")) (consA (cE (.int 0)) (consA (vE 1) (nilA))))) (consA (cE (.str "range")) (nilA)))) (consA (nA tupF (consA (nA tupF (consA (cE (.str "set")) (consA (cE (.int 0)) (consA (u1E negF (vE 1)) (nilA))))) (consA (cE (.str "")) (nilA)))) (consA (nA tupF (consA (nA tupF (consA (cE (.str "set")) (consA (cE (.int 0)) (consA (b2E subF (u1E negF (vE 1)) (cE (.int 1))) (nilA))))) (consA (cE (.str "range")) (nilA)))) (consA (nA tupF (consA (nA tupF (consA (cE (.str "load")) (consA (cE (.int 31)) (consA (cE (.int 31)) (consA (cE (.int 16384)) (nilA)))))) (consA (cE (.str "")) (nilA)))) (consA (nA tupF (consA (nA tupF (consA (cE (.str "load")) (consA (cE (.int 32)) (consA (cE (.int 0)) (consA (cE (.int 0)) (nilA)))))) (consA (cE (.str "range")) (nilA)))) (consA (nA tupF (consA (nA tupF (consA (cE (.str "load")) (consA (cE (.int 0)) (consA (cE (.int 32)) (consA (cE (.int 0)) (nilA)))))) (consA (cE (.str "range")) (nilA)))) (consA (nA tupF (consA (nA tupF (consA (cE (.str "load")) (consA (cE (.int 0)) (consA (cE (.int 0)) (consA (cE (.int 16385)) (nilA)))))) (consA (cE (.str "range")) (nilA)))) (consA (nA tupF (consA (nA tupF (consA (cE (.str "load")) (consA (cE (.int 0)) (consA (cE (.int 0)) (consA (u1E negF (cE (.int 16384))) (nilA)))))) (consA (cE (.str "")) (nilA)))) (consA (nA tupF (consA (nA tupF (consA (cE (.str "load")) (consA (cE (.int 0)) (consA (cE (.int 0)) (consA (u1E negF (cE (.int 16385))) (nilA)))))) (consA (cE (.str "range")) (nilA)))) (consA (nA tupF (consA (nA tupF (consA (cE (.str "store")) (consA (cE (.int 0)) (consA (cE (.int 16384)) (consA (cE (.int 31)) (nilA)))))) (consA (cE (.str "")) (nilA)))) (consA (nA tupF (consA (nA tupF (consA (cE (.str "store")) (consA (cE (.int 0)) (consA (cE (.int 16385)) (consA (cE (.int 0)) (nilA)))))) (consA (cE (.str "range")) (nilA)))) (consA (nA tupF (consA (nA tupF (consA (cE (.str "store")) (consA (cE (.int 0)) (consA (cE (.int 0)) (consA (cE (.int 32)) (nilA)))))) (consA (cE (.str "range")) (nilA)))) (consA (nA tupF (consA (nA tupF (consA (cE (.str "mac")) (consA (cE (.int 0)) (consA (cE (.int 1)) (consA (cE (.int 16384)) (consA (cE (.int 2)) (consA (u1E negF (cE (.int 16384))) (consA (cE (.int 8)) (nilA))))))))) (consA (cE (.str "")) (nilA)))) (consA (nA tupF (consA (nA tupF (consA (cE (.str "mac")) (consA (cE (.int 0)) (consA (cE (.int 1)) (consA (cE (.int 16385)) (consA (cE (.int 2)) (consA (cE (.int 0)) (consA (cE (.int 1)) (nilA))))))))) (consA (cE (.str "range")) (nilA)))) (consA (nA tupF (consA (nA tupF (consA (cE (.str "mac")) (consA (cE (.int 0)) (consA (cE (.int 1)) (consA (cE (.int 0)) (consA (cE (.int 2)) (consA (u1E negF (cE (.int 16385))) (consA (cE (.int 1)) (nilA))))))))) (consA (cE (.str "range")) (nilA)))) (consA (nA tupF (consA (nA tupF (consA (cE (.str "mac")) (consA (cE (.int 0)) (consA (cE (.int 1)) (consA (cE (.int 1)) (consA (cE (.int 2)) (consA (cE (.int 1)) (consA (cE (.int 9)) (nilA))))))))) (consA (cE (.str "range")) (nilA)))) (consA (nA tupF (consA (nA tupF (consA (cE (.str "mac")) (consA (cE (.int 0)) (consA (cE (.int 1)) (consA (cE (.int 1)) (consA (cE (.int 2)) (consA (cE (.int 1)) (consA (cE (.int 0)) (nilA))))))))) (consA (cE (.str "range")) (nilA)))) (consA (nA tupF (consA (nA tupF (consA (cE (.str "mac")) (consA (cE (.int 0)) (consA (cE (.int 1)) (consA (cE (.int 1)) (consA (cE (.int 2)) (consA (cE (.int 1)) (consA (cE (.int 1)) (nilA))))))))) (consA (cE (.str "")) (nilA)))) (consA (nA tupF (consA (nA tupF (consA (cE (.str "mac")) (consA (cE (.int 0)) (consA (cE (.int 32)) (consA (cE (.int 1)) (consA (cE (.int 2)) (consA (cE (.int 1)) (consA (cE (.int 1)) (nilA))))))))) (consA (cE (.str "range")) (nilA)))) (consA (nA tupF (consA (nA tupF (consA (cE (.str "mac")) (consA (cE (.int 0)) (consA (cE (.int 1)) (consA (cE (.int 1)) (consA (cE (.int 32)) (consA (cE (.int 1)) (consA (cE (.int 1)) (nilA))))))))) (consA (cE (.str "range")) (nilA)))) (consA (nA tupF (consA (nA tupF (consA (cE (.str "vector")) (consA (cE (.str "add")) (consA (cE (.int 0)) (consA (cE (.int 1)) (consA (cE (.int 2)) (consA (cE (.int 8)) (nilA)))))))) (consA (cE (.str "")) (nilA)))) (consA (nA tupF (consA (nA tupF (consA (cE (.str "vector")) (consA (cE (.str "less")) (consA (cE (.int 0)) (consA (cE (.int 1)) (consA (cE (.int 2)) (consA (cE (.int 1)) (nilA)))))))) (consA (cE (.str "")) (nilA)))) (consA (nA tupF (consA (nA tupF (consA (cE (.str "vector")) (consA (cE (.str "add")) (consA (cE (.int 0)) (consA (cE (.int 1)) (consA (cE (.int 2)) (consA (cE (.int 9)) (nilA)))))))) (consA (cE (.str "range")) (nilA)))) (consA (nA tupF (consA (nA tupF (consA (cE (.str "vector")) (consA (cE (.str "add")) (consA (cE (.int 0)) (consA (cE (.int 1)) (consA (cE (.int 2)) (consA (cE (.int 0)) (nilA)))))))) (consA (cE (.str "range")) (nilA)))) (consA (nA tupF (consA (nA tupF (consA (cE (.str "vector")) (consA (cE (.str "neg")) (consA (cE (.int 0)) (consA (cE (.int 1)) (consA (cE (.int 2)) (consA (cE (.int 1)) (nilA)))))))) (consA (cE (.str "form")) (nilA)))) (consA (nA tupF (consA (nA tupF (consA (cE (.str "vector")) (consA (cE (.str "dot")) (consA (cE (.int 0)) (consA (cE (.int 1)) (consA (cE (.int 2)) (consA (cE (.int 1)) (nilA)))))))) (consA (cE (.str "form")) (nilA)))) (consA (nA tupF (consA (nA tupF (consA (cE (.str "vector")) (consA (cE (.str "add")) (consA (cE (.int 0)) (consA (cE (.int 1)) (consA (cE (.int 32)) (consA (cE (.int 1)) (nilA)))))))) (consA (cE (.str "range")) (nilA)))) (consA (nA tupF (consA (nA tupF (consA (cE (.str "vector")) (consA (cE (.str "add")) (consA (cE (.int 32)) (consA (cE (.int 1)) (consA (cE (.int 2)) (consA (cE (.int 1)) (nilA)))))))) (consA (cE (.str "range")) (nilA)))) (consA (nA tupF (consA (nA tupF (consA (cE (.str "do")) (consA (cE (.str "add")) (consA (cE (.int 0)) (consA (nA tupF (consA (cE (.int 1)) (consA (cE (.int 2)) (nilA)))) (consA (nA tupF (nilA)) (nilA))))))) (consA (cE (.str "")) (nilA)))) (consA (nA tupF (consA (nA tupF (consA (cE (.str "do")) (consA (cE (.str "add")) (consA (cE (.int 0)) (consA (nA tupF (consA (cE (.int 1)) (nilA))) (consA (nA tupF (nilA)) (nilA))))))) (consA (cE (.str "form")) (nilA)))) (consA (nA tupF (consA (nA tupF (consA (cE (.str "do")) (consA (cE (.str "add")) (consA (cE (.int 0)) (consA (nA tupF (consA (cE (.int 1)) (consA (cE (.int 2)) (consA (cE (.int 3)) (nilA))))) (consA (nA tupF (nilA)) (nilA))))))) (consA (cE (.str "form")) (nilA)))) (consA (nA tupF (consA (nA tupF (consA (cE (.str "do")) (consA (cE (.str "add")) (consA (cE (.int 0)) (consA (nA tupF (consA (cE (.int 1)) (consA (cE (.int 2)) (nilA)))) (consA (nA tupF (consA (cE (.int 1)) (nilA))) (nilA))))))) (consA (cE (.str "form")) (nilA)))) (consA (nA tupF (consA (nA tupF (consA (cE (.str "do")) (consA (cE (.str "sum")) (consA (cE (.int 0)) (consA (nA tupF (consA (cE (.int 1)) (nilA))) (consA (nA tupF (nilA)) (nilA))))))) (consA (cE (.str "form")) (nilA)))) (consA (nA tupF (consA (nA tupF (consA (cE (.str "do")) (consA (cE (.str "neg")) (consA (cE (.int 31)) (consA (nA tupF (consA (cE (.int 31)) (nilA))) (consA (nA tupF (nilA)) (nilA))))))) (consA (cE (.str "")) (nilA)))) (consA (nA tupF (consA (nA tupF (consA (cE (.str "do")) (consA (cE (.str "neg")) (consA (cE (.int 0)) (consA (nA tupF (consA (cE (.int 32)) (nilA))) (consA (nA tupF (nilA)) (nilA))))))) (consA (cE (.str "range")) (nilA)))) (consA (nA tupF (consA (nA tupF (consA (cE (.str "do")) (consA (cE (.str "neg")) (consA (cE (.int 32)) (consA (nA tupF (consA (cE (.int 0)) (nilA))) (consA (nA tupF (nilA)) (nilA))))))) (consA (cE (.str "range")) (nilA)))) (consA (nA tupF (consA (nA tupF (consA (cE (.str "do")) (consA (cE (.str "clamp")) (consA (cE (.int 0)) (consA (nA tupF (consA (cE (.int 1)) (nilA))) (consA (nA tupF (consA (u1E negF (cE (.int 5))) (consA (cE (.int 5)) (nilA)))) (nilA))))))) (consA (cE (.str "")) (nilA)))) (consA (nA tupF (consA (nA tupF (consA (cE (.str "do")) (consA (cE (.str "clamp")) (consA (cE (.int 0)) (consA (nA tupF (consA (cE (.int 1)) (nilA))) (consA (nA tupF (consA (cE (.int 5)) (consA (cE (.int 5)) (nilA)))) (nilA))))))) (consA (cE (.str "")) (nilA)))) (consA (nA tupF (consA (nA tupF (consA (cE (.str "do")) (consA (cE (.str "clamp")) (consA (cE (.int 0)) (consA (nA tupF (consA (cE (.int 1)) (nilA))) (consA (nA tupF (consA (cE (.int 6)) (consA (cE (.int 5)) (nilA)))) (nilA))))))) (consA (cE (.str "range")) (nilA)))) (consA (nA tupF (consA (nA tupF (consA (cE (.str "do")) (consA (cE (.str "clamp")) (consA (cE (.int 0)) (consA (nA tupF (consA (cE (.int 1)) (nilA))) (consA (nA tupF (consA (u1E negF (vE 1)) (consA (b2E subF (vE 1) (cE (.int 1))) (nilA)))) (nilA))))))) (consA (cE (.str "")) (nilA)))) (consA (nA tupF (consA (nA tupF (consA (cE (.str "do")) (consA (cE (.str "clamp")) (consA (cE (.int 0)) (consA (nA tupF (consA (cE (.int 1)) (nilA))) (consA (nA tupF (consA (cE (.int 0)) (consA (vE 1) (nilA)))) (nilA))))))) (consA (cE (.str "range")) (nilA)))) (consA (nA tupF (consA (nA tupF (consA (cE (.str "do")) (consA (cE (.str "clamp")) (consA (cE (.int 0)) (consA (nA tupF (consA (cE (.int 1)) (nilA))) (consA (nA tupF (consA (b2E subF (u1E negF (vE 1)) (cE (.int 1))) (consA (cE (.int 0)) (nilA)))) (nilA))))))) (consA (cE (.str "range")) (nilA)))) (consA (nA tupF (consA (nA tupF (consA (cE (.str "do")) (consA (cE (.str "shift")) (consA (cE (.int 0)) (consA (nA tupF (consA (cE (.int 1)) (nilA))) (consA (nA tupF (consA (cE (.int 1)) (nilA))) (nilA))))))) (consA (cE (.str "")) (nilA)))) (consA (nA tupF (consA (nA tupF (consA (cE (.str "do")) (consA (cE (.str "shift")) (consA (cE (.int 0)) (consA (nA tupF (consA (cE (.int 1)) (nilA))) (consA (nA tupF (consA (cE (.int 30)) (nilA))) (nilA))))))) (consA (cE (.str "")) (nilA)))) (consA (nA tupF (consA (nA tupF (consA (cE (.str "do")) (consA (cE (.str "shift")) (consA (cE (.int 0)) (consA (nA tupF (consA (cE (.int 1)) (nilA))) (consA (nA tupF (consA (cE (.int 0)) (nilA))) (nilA))))))) (consA (cE (.str "range")) (nilA)))) (consA (nA tupF (consA (nA tupF (consA (cE (.str "do")) (consA (cE (.str "shift")) (consA (cE (.int 0)) (consA (nA tupF (consA (cE (.int 1)) (nilA))) (consA (nA tupF (consA (cE (.int 31)) (nilA))) (nilA))))))) (consA (cE (.str "range")) (nilA)))) (consA (nA tupF (consA (nA tupF (consA (cE (.str "do")) (consA (cE (.str "where")) (consA (cE (.int 0)) (consA (nA tupF (consA (cE (.int 1)) (consA (cE (.int 2)) (consA (cE (.int 3)) (nilA))))) (consA (nA tupF (nilA)) (nilA))))))) (consA (cE (.str "")) (nilA)))) (consA (nA tupF (consA (nA tupF (consA (cE (.str "do")) (consA (cE (.str "where")) (consA (cE (.int 0)) (consA (nA tupF (consA (cE (.int 1)) (consA (cE (.int 2)) (nilA)))) (consA (nA tupF (nilA)) (nilA))))))) (consA (cE (.str "form")) (nilA)))) (consA (nA tupF (consA (nA tupF (consA (cE (.str "wait")) (consA (cE (.int 0)) (nilA)))) (consA (cE (.str "")) (nilA)))) (consA (nA tupF (consA (nA tupF (consA (cE (.str "wait")) (consA (cE (.int 1)) (nilA)))) (consA (cE (.str "")) (nilA)))) (consA (nA tupF (consA (nA tupF (consA (cE (.str "wait")) (consA (cE (.int 2)) (nilA)))) (consA (cE (.str "range")) (nilA)))) (consA (nA tupF (consA (nA tupF (consA (cE (.str "wait")) (consA (u1E negF (cE (.int 1))) (nilA)))) (consA (cE (.str "range")) (nilA)))) (consA (nA tupF (consA (nA tupF (consA (cE (.str "in")) (consA (cE (.int 1)) (consA (cE (.int 31)) (consA (cE (.int 16384)) (consA (cE (.int 31)) (consA (u1E negF (cE (.int 16384))) (consA (cE (.int 4096)) (nilA))))))))) (consA (cE (.str "")) (nilA)))) (consA (nA tupF (consA (nA tupF (consA (cE (.str "in")) (consA (cE (.int 2)) (consA (cE (.int 0)) (consA (cE (.int 0)) (consA (cE (.int 0)) (consA (cE (.int 0)) (consA (cE (.int 1)) (nilA))))))))) (consA (cE (.str "range")) (nilA)))) (consA (nA tupF (consA (nA tupF (consA (cE (.str "in")) (consA (cE (.int 0)) (consA (cE (.int 0)) (consA (cE (.int 16385)) (consA (cE (.int 0)) (consA (cE (.int 0)) (consA (cE (.int 1)) (nilA))))))))) (consA (cE (.str "range")) (nilA)))) (consA (nA tupF (consA (nA tupF (consA (cE (.str "in")) (consA (cE (.int 0)) (consA (cE (.int 0)) (consA (cE (.int 0)) (consA (cE (.int 0)) (consA (cE (.int 16385)) (consA (cE (.int 1)) (nilA))))))))) (consA (cE (.str "range")) (nilA)))) (consA (nA tupF (consA (nA tupF (consA (cE (.str "in")) (consA (cE (.int 0)) (consA (cE (.int 0)) (consA (cE (.int 0)) (consA (cE (.int 0)) (consA (cE (.int 0)) (consA (cE (.int 0)) (nilA))))))))) (consA (cE (.str "range")) (nilA)))) (consA (nA tupF (consA (nA tupF (consA (cE (.str "in")) (consA (cE (.int 0)) (consA (cE (.int 0)) (consA (cE (.int 0)) (consA (cE (.int 0)) (consA (cE (.int 0)) (consA (cE (.int 4097)) (nilA))))))))) (consA (cE (.str "range")) (nilA)))) (consA (nA tupF (consA (nA tupF (consA (cE (.str "out")) (consA (cE (.int 0)) (consA (cE (.int 0)) (consA (cE (.int 0)) (consA (cE (.int 0)) (consA (cE (.int 0)) (consA (cE (.int 4096)) (nilA))))))))) (consA (cE (.str "")) (nilA)))) (consA (nA tupF (consA (nA tupF (consA (cE (.str "out")) (consA (cE (.int 0)) (consA (cE (.int 32)) (consA (cE (.int 0)) (consA (cE (.int 0)) (consA (cE (.int 0)) (consA (cE (.int 1)) (nilA))))))))) (consA (cE (.str "range")) (nilA)))) (consA (nA tupF (consA (nA tupF (consA (cE (.str "out")) (consA (cE (.int 0)) (consA (cE (.int 0)) (consA (cE (.int 0)) (consA (cE (.int 32)) (consA (cE (.int 0)) (consA (cE (.int 1)) (nilA))))))))) (consA (cE (.str "range")) (nilA)))) (consA (nA tupF (consA (nA tupF (consA (cE (.str "out")) (consA (cE (.int 0)) (consA (cE (.int 0)) (consA (cE (.int 0)) (consA (cE (.int 0)) (consA (cE (.int 0)) (consA (cE (.int 4097)) (nilA))))))))) (consA (cE (.str "range")) (nilA)))) (consA (nA tupF (consA (nA tupF (consA (cE (.str "skip")) (consA (cE (.int 0)) (consA (cE (.int 0)) (nilA))))) (consA (cE (.str "")) (nilA)))) (consA (nA tupF (consA (nA tupF (consA (cE (.str "skip")) (consA (cE (.int 32)) (consA (cE (.int 0)) (nilA))))) (consA (cE (.str "range")) (nilA)))) (consA (nA tupF (consA (nA tupF (consA (cE (.str "skip")) (consA (cE (.int 0)) (consA (cE (.int 1)) (nilA))))) (consA (cE (.str "form")) (nilA)))) (consA (nA tupF (consA (nA tupF (consA (cE (.str "skip")) (consA (cE (.int 0)) (consA (u1E negF (cE (.int 1))) (nilA))))) (consA (cE (.str "range")) (nilA)))) (consA (nA tupF (consA (nA tupF (consA (cE (.str "end")) (nilA))) (consA (cE (.str "form")) (nilA)))) (consA (nA tupF (consA (nA tupF (consA (cE (.str "loop")) (consA (cE (.int 0)) (consA (cE (.int 0)) (consA (cE (.int 1)) (consA (cE (.int 2)) (nilA))))))) (consA (cE (.str "form")) (nilA)))) (consA (nA tupF (consA (nA tupF (consA (cE (.str "jump")) (nilA))) (consA (cE (.str "form")) (nilA)))) (consA (nA tupF (consA (nA tupF (consA (cE (.str "set")) (consA (cE (.int 0)) (nilA)))) (consA (cE (.str "form")) (nilA)))) (consA (nA tupF (consA (nA tupF (consA (cE (.str "set")) (consA (cE (.int 0)) (consA (cE (.int 1)) (consA (cE (.int 2)) (nilA)))))) (consA (cE (.str "form")) (nilA)))) (consA (nA tupF (consA (nA tupF (consA (cE (.str "wait")) (nilA))) (consA (cE (.str "form")) (nilA)))) (consA (nA tupF (consA (nA tupF (consA (cE (.str "end")) (consA (cE (.int 1)) (nilA)))) (consA (cE (.str "form")) (nilA)))) (consA (nA tupF (consA (nA tupF (nilA)) (consA (cE (.str "form")) (nilA)))) (nilA)))))))))))))))))))))))))))))))))))))))))))))))))))))))))))))))))))))))))))))))) (.one 2)) (seqS (forS (srcE (vE 2)) (.many [3, 4]) b__law_codes_2) (seqS (asgS (b2E mulF (cE (.int 2)) (vE 1)) (.one 5)) (seqS (asgS (nA lstF (consA (nA tupF (consA (nA tupF (consA (cE (.int 0)) (consA (cE (.int 0)) (consA (cE (.int 1)) (consA (cE (.int 1)) (nilA)))))) (consA (cE (.str "")) (nilA)))) (consA (nA tupF (consA (nA tupF (consA (cE (.int 0)) (consA (cE (.int 0)) (consA (cE (.int 1)) (consA (cE (.int 1000)) (nilA)))))) (consA (cE (.str "")) (nilA)))) (consA (nA tupF (consA (nA tupF (consA (cE (.int 0)) (consA (cE (.int 0)) (consA (cE (.int 1)) (consA (cE (.int 0)) (nilA)))))) (consA (cE (.str "range")) (nilA)))) (consA (nA tupF (consA (nA tupF (consA (cE (.int 0)) (consA (cE (.int 0)) (consA (cE (.int 1)) (consA (cE (.int 1001)) (nilA)))))) (consA (cE (.str "range")) (nilA)))) (consA (nA tupF (consA (nA tupF (consA (cE (.int 32)) (consA (cE (.int 0)) (consA (cE (.int 1)) (consA (cE (.int 1)) (nilA)))))) (consA (cE (.str "range")) (nilA)))) (consA (nA tupF (consA (nA tupF (consA (cE (.int 0)) (consA (b2E subF (vE 1) (cE (.int 1))) (consA (cE (.int 1)) (consA (cE (.int 1)) (nilA)))))) (consA (cE (.str "")) (nilA)))) (consA (nA tupF (consA (nA tupF (consA (cE (.int 0)) (consA (b2E subF (vE 1) (cE (.int 1))) (consA (cE (.int 1)) (consA (cE (.int 2)) (nilA)))))) (consA (cE (.str "range")) (nilA)))) (consA (nA tupF (consA (nA tupF (consA (cE (.int 0)) (consA (vE 1) (consA (cE (.int 0)) (consA (cE (.int 1)) (nilA)))))) (consA (cE (.str "range")) (nilA)))) (consA (nA tupF (consA (nA tupF (consA (cE (.int 0)) (consA (u1E negF (vE 1)) (consA (cE (.int 0)) (consA (cE (.int 3)) (nilA)))))) (consA (cE (.str "")) (nilA)))) (consA (nA tupF (consA (nA tupF (consA (cE (.int 0)) (consA (u1E negF (vE 1)) (consA (u1E negF (cE (.int 1))) (consA (cE (.int 2)) (nilA)))))) (consA (cE (.str "range")) (nilA)))) (consA (nA tupF (consA (nA tupF (consA (cE (.int 0)) (consA (cE (.int 0)) (consA (vE 5) (consA (cE (.int 1)) (nilA)))))) (consA (cE (.str "")) (nilA)))) (consA (nA tupF (consA (nA tupF (consA (cE (.int 0)) (consA (cE (.int 0)) (consA (b2E addF (vE 5) (cE (.int 1))) (consA (cE (.int 1)) (nilA)))))) (consA (cE (.str "range")) (nilA)))) (consA (nA tupF (consA (nA tupF (consA (cE (.int 0)) (consA (cE (.int 0)) (consA (u1E negF (vE 5)) (consA (cE (.int 1)) (nilA)))))) (consA (cE (.str "")) (nilA)))) (consA (nA tupF (consA (nA tupF (consA (cE (.int 0)) (consA (cE (.int 0)) (consA (b2E subF (u1E negF (vE 5)) (cE (.int 1))) (consA (cE (.int 1)) (nilA)))))) (consA (cE (.str "range")) (nilA)))) (nilA)))))))))))))))) (.one 6)) (seqS (forS (srcE (vE 6)) (.many [7, 4]) b__law_codes_1) (seqS (asgS (nA tupF (consA (cE (.str "set")) (consA (cE (.int 0)) (consA (cE (.int 0)) (nilA))))) (.one 8)) (seqS (asgS (nA tupF (consA (cE (.str "loop")) (consA (cE (.int 0)) (consA (cE (.int 0)) (consA (cE (.int 1)) (consA (cE (.int 2)) (nilA))))))) (.one 9)) (seqS (asgS (nA lstF (consA (nA tupF (consA (nA tupF (consA (nA tupF (consA (cE (.str "skip")) (consA (cE (.int 0)) (consA (cE (.int 2)) (nilA))))) (consA (vE 8) (consA (vE 8) (nilA))))) (consA (cE (.str "")) (nilA)))) (consA (nA tupF (consA (nA tupF (consA (nA tupF (consA (cE (.str "skip")) (consA (cE (.int 0)) (consA (cE (.int 3)) (nilA))))) (consA (vE 8) (consA (vE 8) (nilA))))) (consA (cE (.str "form")) (nilA)))) (consA (nA tupF (consA (nA tupF (consA (nA tupF (consA (cE (.str "skip")) (consA (cE (.int 0)) (consA (cE (.int 3)) (nilA))))) (consA (vE 9) (consA (vE 8) (consA (nA tupF (consA (cE (.str "end")) (nilA))) (nilA)))))) (consA (cE (.str "")) (nilA)))) (consA (nA tupF (consA (nA tupF (consA (nA tupF (consA (cE (.str "skip")) (consA (cE (.int 0)) (consA (cE (.int 1)) (nilA))))) (consA (vE 9) (consA (vE 8) (consA (nA tupF (consA (cE (.str "end")) (nilA))) (nilA)))))) (consA (cE (.str "form")) (nilA)))) (consA (nA tupF (consA (nA tupF (consA (vE 9) (consA (nA tupF (consA (cE (.str "skip")) (consA (cE (.int 0)) (consA (cE (.int 1)) (nilA))))) (consA (vE 8) (consA (nA tupF (consA (cE (.str "end")) (nilA))) (nilA)))))) (consA (cE (.str "")) (nilA)))) (consA (nA tupF (consA (nA tupF (consA (vE 9) (consA (nA tupF (consA (cE (.str "skip")) (consA (cE (.int 0)) (consA (cE (.int 2)) (nilA))))) (consA (vE 8) (consA (nA tupF (consA (cE (.str "end")) (nilA))) (nilA)))))) (consA (cE (.str "form")) (nilA)))) (consA (nA tupF (consA (nA tupF (consA (vE 9) (consA (nA tupF (consA (cE (.str "end")) (nilA))) (consA (nA tupF (consA (cE (.str "end")) (nilA))) (nilA))))) (consA (cE (.str "form")) (nilA)))) (consA (nA tupF (consA (nA tupF (consA (vE 9) (consA (vE 9) (consA (nA tupF (consA (cE (.str "end")) (nilA))) (nilA))))) (consA (cE (.str "form")) (nilA)))) (consA (nA tupF (consA (nA tupF (consA (vE 9) (consA (vE 9) (consA (nA tupF (consA (cE (.str "end")) (nilA))) (consA (nA tupF (consA (cE (.str "end")) (nilA))) (nilA)))))) (consA (cE (.str "")) (nilA)))) (consA (nA tupF (consA (nA tupF (consA (nA tupF (consA (cE (.str "end")) (nilA))) (consA (vE 9) (nilA)))) (consA (cE (.str "form")) (nilA)))) (nilA)))))))))))) (.one 10)) (seqS (retS (nA (f1 allF) (consA (compXE (srcE (vE 10)) [11, 4] (.many [11, 4]) yesT e__law_codes_0) (nilA)))) (nextS)))))))))))
def f__law_codes : Fn := runF s__law_codes 0 12
-- _law_machines: 0 low, 1 high, 2 k, 3 number
def b__law_machines_1 : SM := seqS (ifS (tbT (b2E neF (nA (callF 3 f__law_told) (consA (cE (.int 0)) (consA (nA (f1 tupleF) (consA (b2E addF (b2E addF (slE (vE 0) (noO) (someO (vE 2))) (nA lstF (consA (vE 3) (nilA)))) (slE (vE 0) (someO (b2E addF (vE 2) (cE (.int 1)))) (noO))) (nilA))) (consA (cE (.int 0)) (nilA))))) (cE (.str "machine")))) (seqS (retS (cE (.bl false))) (nextS)) (nextS)) (nextS)
def b__law_machines_0 : SM := seqS (forS (srcE (nA tupF (consA (b2E subF (b2E ixF (vE 0) (vE 2)) (cE (.int 1))) (consA (b2E addF (b2E ixF (vE 1) (vE 2)) (cE (.int 1))) (consA (cE (.int 0)) (consA (u1E negF (cE (.int 1))) (nilA))))))) (.one 3) b__law_machines_1) (nextS)
def s__law_machines : SM := seqS (asgS (nA lstF (consA (cE (.int 32)) (consA (cE (.int 1)) (consA (cE (.int 16)) (consA (cE (.int 1)) (consA (cE (.int 1)) (nilA))))))) (.one 0)) (seqS (asgS (nA lstF (consA (cE (.int 256)) (consA (cE (.int 16384)) (consA (cE (.int 4096)) (consA (cE (.int 4)) (consA (cE (.int 16)) (nilA))))))) (.one 1)) (seqS (ifS (orT (tbT (b2E neF (nA (callF 3 f__law_told) (consA (cE (.int 0)) (consA (nA (f1 tupleF) (consA (vE 0) (nilA))) (consA (cE (.int 0)) (nilA))))) (cE (.str "")))) (tbT (b2E neF (nA (callF 3 f__law_told) (consA (cE (.int 0)) (consA (nA (f1 tupleF) (consA (vE 1) (nilA))) (consA (cE (.int 0)) (nilA))))) (cE (.str ""))))) (seqS (retS (cE (.bl false))) (nextS)) (nextS)) (seqS (forS (rngE rangeF1 (consA (cE (.int 5)) (nilA))) (.one 2) b__law_machines_0) (seqS (retS (cE (.bl true))) (nextS)))))
def f__law_machines : Fn := runF s__law_machines 0 4
-- law: 0 script, 1 menu, 2 cell
def T_law : List (Str × (Nat × Fn)) := [("_law_graphs", 0, f__law_graphs), ("_law_lines", 0, f__law_lines), ("_law_codes", 0, f__law_codes), ("_law_machines", 0, f__law_machines)]
def b_law_0 : SM := seqS (asgS (b2E modF (nA (f1 intF) (consA (b2E addF (vE 1) (nA (f1 absF) (consA (vE 2) (nilA)))) (nilA))) (cE (.int 4))) (.one 1)) (nextS)
def s_law : SM := seqS (asgS (cE (.int 0)) (.one 1)) (seqS (forS (srcE (vE 0)) (.one 2) b_law_0) (seqS (retS (callVF (fun x => List.lookup x T_law) (b2E ixF (nA lstF (consA (cE (.glb "_law_machines")) (consA (cE (.glb "_law_codes")) (consA (cE (.glb "_law_lines")) (consA (cE (.glb "_law_graphs")) (nilA)))))) (vE 1)) (nilA))) (nextS)))
def f_law : Fn := runF s_law 1 3
/-! ### the walks -/
theorem sc_check_machine : FnScope ["machine", "k"] ["machine"] (defScope (top 23)) := ⟨rfl, rfl, rfl, by decide +kernel, rfl, by decide +kernel, by decide +kernel⟩
def T_check_machine : List (Str × (Nat × Fn)) := []
theorem cc_check_machine : cSs 400 (defSC ["machine", "k"] (defScope (top 23)) (tb.tab (T_check_machine)) 0) (defBody (top 23)) = s_check_machine := by kernel_rfl
theorem sc_steps_in : FnScope ["code", "totals", "counts", "instruction", "inner"] ["code"] (defScope (top 38)) := ⟨rfl, rfl, rfl, by decide +kernel, rfl, by decide +kernel, by decide +kernel⟩
def T_steps_in : List (Str × (Nat × Fn)) := []
theorem cc_steps_in : cSs 400 (defSC ["code", "totals", "counts", "instruction", "inner"] (defScope (top 38)) (tb.tab (T_steps_in)) 0) (defBody (top 38)) = s_steps_in := by kernel_rfl
theorem sc_fits_width : FnScope ["width", "n"] ["width", "n"] (defScope (top 24)) := ⟨rfl, rfl, rfl, by decide +kernel, rfl, by decide +kernel, by decide +kernel⟩
def T_fits_width : List (Str × (Nat × Fn)) := []
theorem cc_fits_width : cSs 400 (defSC ["width", "n"] (defScope (top 24)) (tb.tab (T_fits_width)) 0) (defBody (top 24)) = s_fits_width := by kernel_rfl
theorem sc_loop_in_range : FnScope ["width", "instruction", "start", "step", "count", "wide"] ["width", "instruction"] (defScope (top 35)) := ⟨rfl, rfl, rfl, by decide +kernel, rfl, by decide +kernel, by decide +kernel⟩
def T_loop_in_range : List (Str × (Nat × Fn)) := [("fits_width", 2, f_fits_width)]
theorem cc_loop_in_range : cSs 400 (defSC ["width", "instruction", "start", "step", "count", "wide"] (defScope (top 35)) (tb.tab (T_loop_in_range)) 1) (defBody (top 35)) = s_loop_in_range := by kernel_rfl
theorem sc_fields_in_range : FnScope ["kind", "info"] ["kind", "info"] (defScope (top 20)) := ⟨rfl, rfl, rfl, by decide +kernel, rfl, by decide +kernel, by decide +kernel⟩
def T_fields_in_range : List (Str × (Nat × Fn)) := []
theorem cc_fields_in_range : cSs 400 (defSC ["kind", "info"] (defScope (top 20)) (tb.tab (T_fields_in_range)) 0) (defBody (top 20)) = s_fields_in_range := by kernel_rfl
theorem sc_own_in_range : FnScope ["machine", "instruction", "width", "main", "near", "queues", "lanes", "name", "good", "s", "n"] ["machine", "instruction"] (defScope (top 36)) := ⟨rfl, rfl, rfl, by decide +kernel, rfl, by decide +kernel, by decide +kernel⟩
def T_own_in_range : List (Str × (Nat × Fn)) := [("loop_in_range", 2, f_loop_in_range), ("fits_width", 2, f_fits_width), ("fields_in_range", 2, f_fields_in_range)]
theorem cc_own_in_range : cSs 400 (defSC ["machine", "instruction", "width", "main", "near", "queues", "lanes", "name", "good", "s", "n"] (defScope (top 36)) (tb.tab (T_own_in_range)) 2) (defBody (top 36)) = s_own_in_range := by kernel_rfl
theorem sc_in_range : FnScope ["machine", "instruction", "name", "k"] ["machine", "instruction"] (defScope (top 37)) := ⟨rfl, rfl, rfl, by decide +kernel, rfl, by decide +kernel, by decide +kernel⟩
def T_in_range : List (Str × (Nat × Fn)) := [("own_in_range", 2, f_own_in_range)]
theorem cc_in_range : cSs 400 (defSC ["machine", "instruction", "name", "k"] (defScope (top 37)) (tb.tab (T_in_range)) 3) (defBody (top 37)) = s_in_range := by kernel_rfl
theorem sc_check_skip : FnScope ["code", "at", "depth", "k"] ["code", "at"] (defScope (top 34)) := ⟨rfl, rfl, rfl, by decide +kernel, rfl, by decide +kernel, by decide +kernel⟩
def T_check_skip : List (Str × (Nat × Fn)) := []
theorem cc_check_skip : cSs 400 (defSC ["code", "at", "depth", "k"] (defScope (top 34)) (tb.tab (T_check_skip)) 0) (defBody (top 34)) = s_check_skip := by kernel_rfl
theorem sc_depths_of : FnScope ["code", "depths", "depth", "instruction"] ["code"] (defScope (top 33)) := ⟨rfl, rfl, rfl, by decide +kernel, rfl, by decide +kernel, by decide +kernel⟩
def T_depths_of : List (Str × (Nat × Fn)) := []
theorem cc_depths_of : cSs 400 (defSC ["code", "depths", "depth", "instruction"] (defScope (top 33)) (tb.tab (T_depths_of)) 0) (defBody (top 33)) = s_depths_of := by kernel_rfl
theorem sc_well_formed : FnScope ["instruction", "kind"] ["instruction"] (defScope (top 32)) := ⟨rfl, rfl, rfl, by decide +kernel, rfl, by decide +kernel, by decide +kernel⟩
def T_well_formed : List (Str × (Nat × Fn)) := []
theorem cc_well_formed : cSs 400 (defSC ["instruction", "kind"] (defScope (top 32)) (tb.tab (T_well_formed)) 0) (defBody (top 32)) = s_well_formed := by kernel_rfl
theorem sc_check_code : FnScope ["machine", "code", "instruction", "depths", "at"] ["machine", "code"] (defScope (top 39)) := ⟨rfl, rfl, rfl, by decide +kernel, rfl, by decide +kernel, by decide +kernel⟩
def T_check_code : List (Str × (Nat × Fn)) := [("steps_in", 1, f_steps_in), ("in_range", 2, f_in_range), ("check_skip", 2, f_check_skip), ("depths_of", 1, f_depths_of), ("well_formed", 1, f_well_formed), ("check_machine", 1, f_check_machine)]
theorem cc_check_code : cSs 400 (defSC ["machine", "code", "instruction", "depths", "at"] (defScope (top 39)) (tb.tab (T_check_code)) 4) (defBody (top 39)) = s_check_code := by kernel_rfl
theorem sc_read_integer : FnScope ["word", "most", "digits", "sign"] ["word", "most"] (defScope (top 42)) := ⟨rfl, rfl, rfl, by decide +kernel, rfl, by decide +kernel, by decide +kernel⟩
def T_read_integer : List (Str × (Nat × Fn)) := []
theorem cc_read_integer : cSs 400 (defSC ["word", "most", "digits", "sign"] (defScope (top 42)) (tb.tab (T_read_integer)) 0) (defBody (top 42)) = s_read_integer := by kernel_rfl
theorem sc_number_in_listing : FnScope ["word", "n"] ["word"] (defScope (top 46)) := ⟨rfl, rfl, rfl, by decide +kernel, rfl, by decide +kernel, by decide +kernel⟩
def T_number_in_listing : List (Str × (Nat × Fn)) := [("read_integer", 2, f_read_integer)]
theorem cc_number_in_listing : cSs 400 (defSC ["word", "n"] (defScope (top 46)) (tb.tab (T_number_in_listing)) 1) (defBody (top 46)) = s_number_in_listing := by kernel_rfl
theorem sc_kind_in : FnScope ["word"] ["word"] (defScope (top 48)) := ⟨rfl, rfl, rfl, by decide +kernel, rfl, by decide +kernel, by decide +kernel⟩
def T_kind_in : List (Str × (Nat × Fn)) := []
theorem cc_kind_in : cSs 400 (defSC ["word"] (defScope (top 48)) (tb.tab (T_kind_in)) 0) (defBody (top 48)) = s_kind_in := by kernel_rfl
theorem sc_group_in : FnScope ["words", "many", "word"] ["words"] (defScope (top 49)) := ⟨rfl, rfl, rfl, by decide +kernel, rfl, by decide +kernel, by decide +kernel⟩
def T_group_in : List (Str × (Nat × Fn)) := [("number_in_listing", 1, f_number_in_listing)]
theorem cc_group_in : cSs 400 (defSC ["words", "many", "word"] (defScope (top 49)) (tb.tab (T_group_in)) 2) (defBody (top 49)) = s_group_in := by kernel_rfl
theorem sc_do_in : FnScope ["words", "kind", "d", "sources", "rest", "info"] ["words"] (defScope (top 50)) := ⟨rfl, rfl, rfl, by decide +kernel, rfl, by decide +kernel, by decide +kernel⟩
def T_do_in : List (Str × (Nat × Fn)) := [("group_in", 1, f_group_in), ("number_in_listing", 1, f_number_in_listing), ("kind_in", 1, f_kind_in)]
theorem cc_do_in : cSs 400 (defSC ["words", "kind", "d", "sources", "rest", "info"] (defScope (top 50)) (tb.tab (T_do_in)) 3) (defBody (top 50)) = s_do_in := by kernel_rfl
theorem sc_instruction_in : FnScope ["line", "words", "name", "word"] ["line"] (defScope (top 51)) := ⟨rfl, rfl, rfl, by decide +kernel, rfl, by decide +kernel, by decide +kernel⟩
def T_instruction_in : List (Str × (Nat × Fn)) := [("number_in_listing", 1, f_number_in_listing), ("kind_in", 1, f_kind_in), ("do_in", 1, f_do_in)]
theorem cc_instruction_in : cSs 400 (defSC ["line", "words", "name", "word"] (defScope (top 51)) (tb.tab (T_instruction_in)) 4) (defBody (top 51)) = s_instruction_in := by kernel_rfl
theorem sc_read_code : FnScope ["machine", "text", "lines", "code", "line"] ["machine", "text"] (defScope (top 52)) := ⟨rfl, rfl, rfl, by decide +kernel, rfl, by decide +kernel, by decide +kernel⟩
def T_read_code : List (Str × (Nat × Fn)) := [("check_code", 2, f_check_code), ("instruction_in", 1, f_instruction_in), ("check_machine", 1, f_check_machine)]
theorem cc_read_code : cSs 400 (defSC ["machine", "text", "lines", "code", "line"] (defScope (top 52)) (tb.tab (T_read_code)) 5) (defBody (top 52)) = s_read_code := by kernel_rfl
theorem sc_count_of : FnScope ["shape", "count", "axis"] ["shape"] (defScope (top 57)) := ⟨rfl, rfl, rfl, by decide +kernel, rfl, by decide +kernel, by decide +kernel⟩
def T_count_of : List (Str × (Nat × Fn)) := []
theorem cc_count_of : cSs 400 (defSC ["shape", "count", "axis"] (defScope (top 57)) (tb.tab (T_count_of)) 0) (defBody (top 57)) = s_count_of := by kernel_rfl
theorem sc_size_on : FnScope ["shape", "letter", "axis"] ["shape", "letter"] (defScope (top 59)) := ⟨rfl, rfl, rfl, by decide +kernel, rfl, by decide +kernel, by decide +kernel⟩
def T_size_on : List (Str × (Nat × Fn)) := []
theorem cc_size_on : cSs 400 (defSC ["shape", "letter", "axis"] (defScope (top 59)) (tb.tab (T_size_on)) 0) (defBody (top 59)) = s_size_on := by kernel_rfl
theorem sc_node_work : FnScope ["node", "domains", "shape", "kind", "args", "info"] ["node", "domains", "shape"] (defScope (top 83)) := ⟨rfl, rfl, rfl, by decide +kernel, rfl, by decide +kernel, by decide +kernel⟩
def T_node_work : List (Str × (Nat × Fn)) := [("count_of", 1, f_count_of), ("size_on", 2, f_size_on)]
theorem cc_node_work : cSs 400 (defSC ["node", "domains", "shape", "kind", "args", "info"] (defScope (top 83)) (tb.tab (T_node_work)) 1) (defBody (top 83)) = s_node_work := by kernel_rfl
theorem sc_total_work : FnScope ["nodes", "domains", "work", "k"] ["nodes", "domains"] (defScope (top 84)) := ⟨rfl, rfl, rfl, by decide +kernel, rfl, by decide +kernel, by decide +kernel⟩
def T_total_work : List (Str × (Nat × Fn)) := [("node_work", 3, f_node_work)]
theorem cc_total_work : cSs 400 (defSC ["nodes", "domains", "work", "k"] (defScope (top 84)) (tb.tab (T_total_work)) 2) (defBody (top 84)) = s_total_work := by kernel_rfl
theorem sc_corners : FnScope ["a", "b", "products"] ["a", "b"] (defScope (top 78)) := ⟨rfl, rfl, rfl, by decide +kernel, rfl, by decide +kernel, by decide +kernel⟩
def T_corners : List (Str × (Nat × Fn)) := []
theorem cc_corners : cSs 400 (defSC ["a", "b", "products"] (defScope (top 78)) (tb.tab (T_corners)) 0) (defBody (top 78)) = s_corners := by kernel_rfl
theorem sc_round_off : FnScope ["n", "bits"] ["n", "bits"] (defScope (top 19)) := ⟨rfl, rfl, rfl, by decide +kernel, rfl, by decide +kernel, by decide +kernel⟩
def T_round_off : List (Str × (Nat × Fn)) := []
theorem cc_round_off : cSs 400 (defSC ["n", "bits"] (defScope (top 19)) (tb.tab (T_round_off)) 0) (defBody (top 19)) = s_round_off := by kernel_rfl
theorem sc_limit : FnScope ["n", "low", "high"] ["n", "low", "high"] (defScope (top 18)) := ⟨rfl, rfl, rfl, by decide +kernel, rfl, by decide +kernel, by decide +kernel⟩
def T_limit : List (Str × (Nat × Fn)) := []
theorem cc_limit : cSs 400 (defSC ["n", "low", "high"] (defScope (top 18)) (tb.tab (T_limit)) 0) (defBody (top 18)) = s_limit := by kernel_rfl
theorem sc_pointwise_span : FnScope ["kind", "info", "spans", "l", "h", "p", "q"] ["kind", "info", "spans"] (defScope (top 79)) := ⟨rfl, rfl, rfl, by decide +kernel, rfl, by decide +kernel, by decide +kernel⟩
def T_pointwise_span : List (Str × (Nat × Fn)) := [("corners", 2, f_corners), ("round_off", 2, f_round_off), ("limit", 3, f_limit)]
theorem cc_pointwise_span : cSs 400 (defSC ["kind", "info", "spans", "l", "h", "p", "q"] (defScope (top 79)) (tb.tab (T_pointwise_span)) 1) (defBody (top 79)) = s_pointwise_span := by kernel_rfl
theorem sc_other_span : FnScope ["kind", "info", "shapes", "spans", "l", "h", "size", "low", "high"] ["kind", "info", "shapes", "spans"] (defScope (top 80)) := ⟨rfl, rfl, rfl, by decide +kernel, rfl, by decide +kernel, by decide +kernel⟩
def T_other_span : List (Str × (Nat × Fn)) := [("size_on", 2, f_size_on), ("corners", 2, f_corners)]
theorem cc_other_span : cSs 400 (defSC ["kind", "info", "shapes", "spans", "l", "h", "size", "low", "high"] (defScope (top 80)) (tb.tab (T_other_span)) 1) (defBody (top 80)) = s_other_span := by kernel_rfl
theorem sc_letters_of : FnScope ["shape", "axis"] ["shape"] (defScope (top 58)) := ⟨rfl, rfl, rfl, by decide +kernel, rfl, by decide +kernel, by decide +kernel⟩
def T_letters_of : List (Str × (Nat × Fn)) := []
theorem cc_letters_of : cSs 400 (defSC ["shape", "axis"] (defScope (top 58)) (tb.tab (T_letters_of)) 0) (defBody (top 58)) = s_letters_of := by kernel_rfl
theorem sc_check_letters : FnScope ["shape", "letters", "k"] ["shape"] (defScope (top 60)) := ⟨rfl, rfl, rfl, by decide +kernel, rfl, by decide +kernel, by decide +kernel⟩
def T_check_letters : List (Str × (Nat × Fn)) := [("letters_of", 1, f_letters_of)]
theorem cc_check_letters : cSs 400 (defSC ["shape", "letters", "k"] (defScope (top 60)) (tb.tab (T_check_letters)) 1) (defBody (top 60)) = s_check_letters := by kernel_rfl
theorem sc_check_shape : FnScope ["shape", "axis"] ["shape"] (defScope (top 61)) := ⟨rfl, rfl, rfl, by decide +kernel, rfl, by decide +kernel, by decide +kernel⟩
def T_check_shape : List (Str × (Nat × Fn)) := [("count_of", 1, f_count_of), ("check_letters", 1, f_check_letters)]
theorem cc_check_shape : cSs 400 (defSC ["shape", "axis"] (defScope (top 61)) (tb.tab (T_check_shape)) 2) (defBody (top 61)) = s_check_shape := by kernel_rfl
theorem sc_in_place_of : FnScope ["shape", "letter", "others", "result", "axis"] ["shape", "letter", "others"] (defScope (top 75)) := ⟨rfl, rfl, rfl, by decide +kernel, rfl, by decide +kernel, by decide +kernel⟩
def T_in_place_of : List (Str × (Nat × Fn)) := []
theorem cc_in_place_of : cSs 400 (defSC ["shape", "letter", "others", "result", "axis"] (defScope (top 75)) (tb.tab (T_in_place_of)) 0) (defBody (top 75)) = s_in_place_of := by kernel_rfl
theorem sc_resized : FnScope ["shape", "letter", "size", "axis"] ["shape", "letter", "size"] (defScope (top 73)) := ⟨rfl, rfl, rfl, by decide +kernel, rfl, by decide +kernel, by decide +kernel⟩
def T_resized : List (Str × (Nat × Fn)) := []
theorem cc_resized : cSs 400 (defSC ["shape", "letter", "size", "axis"] (defScope (top 73)) (tb.tab (T_resized)) 0) (defBody (top 73)) = s_resized := by kernel_rfl
theorem sc_without : FnScope ["shape", "letter", "axis"] ["shape", "letter"] (defScope (top 74)) := ⟨rfl, rfl, rfl, by decide +kernel, rfl, by decide +kernel, by decide +kernel⟩
def T_without : List (Str × (Nat × Fn)) := []
theorem cc_without : cSs 400 (defSC ["shape", "letter", "axis"] (defScope (top 74)) (tb.tab (T_without)) 0) (defBody (top 74)) = s_without := by kernel_rfl
theorem sc_spread_together : FnScope ["first", "second", "result", "axis", "size"] ["first", "second"] (defScope (top 62)) := ⟨rfl, rfl, rfl, by decide +kernel, rfl, by decide +kernel, by decide +kernel⟩
def T_spread_together : List (Str × (Nat × Fn)) := [("size_on", 2, f_size_on)]
theorem cc_spread_together : cSs 400 (defSC ["first", "second", "result", "axis", "size"] (defScope (top 62)) (tb.tab (T_spread_together)) 1) (defBody (top 62)) = s_spread_together := by kernel_rfl
theorem sc_raw_shape : FnScope ["kind", "info", "shapes", "a", "size", "letter"] ["kind", "info", "shapes"] (defScope (top 76)) := ⟨rfl, rfl, rfl, by decide +kernel, rfl, by decide +kernel, by decide +kernel⟩
def T_raw_shape : List (Str × (Nat × Fn)) := [("in_place_of", 3, f_in_place_of), ("resized", 3, f_resized), ("without", 2, f_without), ("size_on", 2, f_size_on), ("spread_together", 2, f_spread_together)]
theorem cc_raw_shape : cSs 400 (defSC ["kind", "info", "shapes", "a", "size", "letter"] (defScope (top 76)) (tb.tab (T_raw_shape)) 2) (defBody (top 76)) = s_raw_shape := by kernel_rfl
theorem sc_broadcast : FnScope ["first", "second", "result"] ["first", "second"] (defScope (top 63)) := ⟨rfl, rfl, rfl, by decide +kernel, rfl, by decide +kernel, by decide +kernel⟩
def T_broadcast : List (Str × (Nat × Fn)) := [("check_shape", 1, f_check_shape), ("spread_together", 2, f_spread_together)]
theorem cc_broadcast : cSs 400 (defSC ["first", "second", "result"] (defScope (top 63)) (tb.tab (T_broadcast)) 3) (defBody (top 63)) = s_broadcast := by kernel_rfl
theorem sc_shape_of : FnScope ["kind", "info", "shapes", "result", "other"] ["kind", "info", "shapes"] (defScope (top 77)) := ⟨rfl, rfl, rfl, by decide +kernel, rfl, by decide +kernel, by decide +kernel⟩
def T_shape_of : List (Str × (Nat × Fn)) := [("check_shape", 1, f_check_shape), ("raw_shape", 3, f_raw_shape), ("broadcast", 2, f_broadcast)]
theorem cc_shape_of : cSs 400 (defSC ["kind", "info", "shapes", "result", "other"] (defScope (top 77)) (tb.tab (T_shape_of)) 4) (defBody (top 77)) = s_shape_of := by kernel_rfl
theorem sc_check_extents : FnScope ["kind", "info", "shapes", "good", "count"] ["kind", "info", "shapes"] (defScope (top 72)) := ⟨rfl, rfl, rfl, by decide +kernel, rfl, by decide +kernel, by decide +kernel⟩
def T_check_extents : List (Str × (Nat × Fn)) := [("size_on", 2, f_size_on)]
theorem cc_check_extents : cSs 400 (defSC ["kind", "info", "shapes", "good", "count"] (defScope (top 72)) (tb.tab (T_check_extents)) 1) (defBody (top 72)) = s_check_extents := by kernel_rfl
theorem sc_same_but : FnScope ["first", "second", "letter", "k"] ["first", "second", "letter"] (defScope (top 70)) := ⟨rfl, rfl, rfl, by decide +kernel, rfl, by decide +kernel, by decide +kernel⟩
def T_same_but : List (Str × (Nat × Fn)) := [("letters_of", 1, f_letters_of)]
theorem cc_same_but : cSs 400 (defSC ["first", "second", "letter", "k"] (defScope (top 70)) (tb.tab (T_same_but)) 1) (defBody (top 70)) = s_same_but := by kernel_rfl
theorem sc_check_axes : FnScope ["kind", "info", "shapes", "names", "good", "letter"] ["kind", "info", "shapes"] (defScope (top 71)) := ⟨rfl, rfl, rfl, by decide +kernel, rfl, by decide +kernel, by decide +kernel⟩
def T_check_axes : List (Str × (Nat × Fn)) := [("same_but", 3, f_same_but), ("letters_of", 1, f_letters_of)]
theorem cc_check_axes : cSs 400 (defSC ["kind", "info", "shapes", "names", "good", "letter"] (defScope (top 71)) (tb.tab (T_check_axes)) 2) (defBody (top 71)) = s_check_axes := by kernel_rfl
theorem sc_within : FnScope ["numbers", "low", "high", "n"] ["numbers", "low", "high"] (defScope (top 68)) := ⟨rfl, rfl, rfl, by decide +kernel, rfl, by decide +kernel, by decide +kernel⟩
def T_within : List (Str × (Nat × Fn)) := []
theorem cc_within : cSs 400 (defSC ["numbers", "low", "high", "n"] (defScope (top 68)) (tb.tab (T_within)) 0) (defBody (top 68)) = s_within := by kernel_rfl
theorem sc_check_fields : FnScope ["kind", "info", "good"] ["kind", "info"] (defScope (top 69)) := ⟨rfl, rfl, rfl, by decide +kernel, rfl, by decide +kernel, by decide +kernel⟩
def T_check_fields : List (Str × (Nat × Fn)) := [("within", 3, f_within), ("fields_in_range", 2, f_fields_in_range)]
theorem cc_check_fields : cSs 400 (defSC ["kind", "info", "good"] (defScope (top 69)) (tb.tab (T_check_fields)) 1) (defBody (top 69)) = s_check_fields := by kernel_rfl
theorem sc_check_form : FnScope ["node", "domains", "kind", "args", "info", "arg"] ["node", "domains"] (defScope (top 67)) := ⟨rfl, rfl, rfl, by decide +kernel, rfl, by decide +kernel, by decide +kernel⟩
def T_check_form : List (Str × (Nat × Fn)) := [("count_of", 1, f_count_of)]
theorem cc_check_form : cSs 400 (defSC ["node", "domains", "kind", "args", "info", "arg"] (defScope (top 67)) (tb.tab (T_check_form)) 1) (defBody (top 67)) = s_check_form := by kernel_rfl
theorem sc_domain_of : FnScope ["node", "domains", "kind", "args", "info", "shapes", "spans", "shape", "low", "high", "arg"] ["node", "domains"] (defScope (top 81)) := ⟨rfl, rfl, rfl, by decide +kernel, rfl, by decide +kernel, by decide +kernel⟩
def T_domain_of : List (Str × (Nat × Fn)) := [("pointwise_span", 3, f_pointwise_span), ("other_span", 4, f_other_span), ("shape_of", 3, f_shape_of), ("check_extents", 3, f_check_extents), ("check_axes", 3, f_check_axes), ("check_shape", 1, f_check_shape), ("check_fields", 2, f_check_fields), ("check_form", 2, f_check_form)]
theorem cc_domain_of : cSs 400 (defSC ["node", "domains", "kind", "args", "info", "shapes", "spans", "shape", "low", "high", "arg"] (defScope (top 81)) (tb.tab (T_domain_of)) 5) (defBody (top 81)) = s_domain_of := by kernel_rfl
theorem sc_check_graph : FnScope ["graph", "nodes", "outs", "domains", "node", "out"] ["graph"] (defScope (top 85)) := ⟨rfl, rfl, rfl, by decide +kernel, rfl, by decide +kernel, by decide +kernel⟩
def T_check_graph : List (Str × (Nat × Fn)) := [("total_work", 2, f_total_work), ("domain_of", 2, f_domain_of)]
theorem cc_check_graph : cSs 400 (defSC ["graph", "nodes", "outs", "domains", "node", "out"] (defScope (top 85)) (tb.tab (T_check_graph)) 6) (defBody (top 85)) = s_check_graph := by kernel_rfl
theorem sc_number_in_notation : FnScope ["word", "n"] ["word"] (defScope (top 90)) := ⟨rfl, rfl, rfl, by decide +kernel, rfl, by decide +kernel, by decide +kernel⟩
def T_number_in_notation : List (Str × (Nat × Fn)) := [("read_integer", 2, f_read_integer)]
theorem cc_number_in_notation : cSs 400 (defSC ["word", "n"] (defScope (top 90)) (tb.tab (T_number_in_notation)) 1) (defBody (top 90)) = s_number_in_notation := by kernel_rfl
theorem sc_letter_in : FnScope ["word"] ["word"] (defScope (top 92)) := ⟨rfl, rfl, rfl, by decide +kernel, rfl, by decide +kernel, by decide +kernel⟩
def T_letter_in : List (Str × (Nat × Fn)) := []
theorem cc_letter_in : cSs 400 (defSC ["word"] (defScope (top 92)) (tb.tab (T_letter_in)) 0) (defBody (top 92)) = s_letter_in := by kernel_rfl
theorem sc_letters_in : FnScope ["word", "sign"] ["word"] (defScope (top 93)) := ⟨rfl, rfl, rfl, by decide +kernel, rfl, by decide +kernel, by decide +kernel⟩
def T_letters_in : List (Str × (Nat × Fn)) := [("letter_in", 1, f_letter_in)]
theorem cc_letters_in : cSs 400 (defSC ["word", "sign"] (defScope (top 93)) (tb.tab (T_letters_in)) 1) (defBody (top 93)) = s_letters_in := by kernel_rfl
theorem sc_read_natural : FnScope ["word", "most"] ["word", "most"] (defScope (top 43)) := ⟨rfl, rfl, rfl, by decide +kernel, rfl, by decide +kernel, by decide +kernel⟩
def T_read_natural : List (Str × (Nat × Fn)) := [("read_integer", 2, f_read_integer)]
theorem cc_read_natural : cSs 400 (defSC ["word", "most"] (defScope (top 43)) (tb.tab (T_read_natural)) 1) (defBody (top 43)) = s_read_natural := by kernel_rfl
theorem sc_shape_in : FnScope ["word", "axes", "at", "letter", "end", "size"] ["word"] (defScope (top 94)) := ⟨rfl, rfl, rfl, by decide +kernel, rfl, by decide +kernel, by decide +kernel⟩
def T_shape_in : List (Str × (Nat × Fn)) := [("read_natural", 2, f_read_natural), ("letter_in", 1, f_letter_in)]
theorem cc_shape_in : cSs 400 (defSC ["word", "axes", "at", "letter", "end", "size"] (defScope (top 94)) (tb.tab (T_shape_in)) 2) (defBody (top 94)) = s_shape_in := by kernel_rfl
theorem sc_fields_in : FnScope ["kind", "words", "fields", "k", "word"] ["kind", "words"] (defScope (top 95)) := ⟨rfl, rfl, rfl, by decide +kernel, rfl, by decide +kernel, by decide +kernel⟩
def T_fields_in : List (Str × (Nat × Fn)) := [("letter_in", 1, f_letter_in), ("number_in_notation", 1, f_number_in_notation), ("letters_in", 1, f_letters_in), ("shape_in", 1, f_shape_in)]
theorem cc_fields_in : cSs 400 (defSC ["kind", "words", "fields", "k", "word"] (defScope (top 95)) (tb.tab (T_fields_in)) 3) (defBody (top 95)) = s_fields_in := by kernel_rfl
theorem sc_node_in : FnScope ["line", "words", "kind", "many", "args", "word"] ["line"] (defScope (top 96)) := ⟨rfl, rfl, rfl, by decide +kernel, rfl, by decide +kernel, by decide +kernel⟩
def T_node_in : List (Str × (Nat × Fn)) := [("fields_in", 2, f_fields_in), ("number_in_notation", 1, f_number_in_notation)]
theorem cc_node_in : cSs 400 (defSC ["line", "words", "kind", "many", "args", "word"] (defScope (top 96)) (tb.tab (T_node_in)) 4) (defBody (top 96)) = s_node_in := by kernel_rfl
theorem sc_read_graph : FnScope ["text", "lines", "last", "nodes", "outs", "line", "word"] ["text"] (defScope (top 97)) := ⟨rfl, rfl, rfl, by decide +kernel, rfl, by decide +kernel, by decide +kernel⟩
def T_read_graph : List (Str × (Nat × Fn)) := [("check_graph", 1, f_check_graph), ("number_in_notation", 1, f_number_in_notation), ("node_in", 1, f_node_in)]
theorem cc_read_graph : cSs 400 (defSC ["text", "lines", "last", "nodes", "outs", "line", "word"] (defScope (top 97)) (tb.tab (T_read_graph)) 7) (defBody (top 97)) = s_read_graph := by kernel_rfl
theorem sc__law_told : FnScope ["which", "one", "two", "found", "e"] ["which", "one", "two"] (defScope (top 99)) := ⟨rfl, rfl, rfl, by decide +kernel, rfl, by decide +kernel, by decide +kernel⟩
def T__law_told : List (Str × (Nat × Fn)) := [("check_machine", 1, f_check_machine), ("check_code", 2, f_check_code), ("read_code", 2, f_read_code), ("read_graph", 1, f_read_graph)]
theorem cc__law_told : cSs 400 (defSC ["which", "one", "two", "found", "e"] (defScope (top 99)) (tb.tab (T__law_told)) 8) (defBody (top 99)) = s__law_told := by kernel_rfl
theorem sc__law_graphs : FnScope ["base", "nodes", "at", "line", "text", "form", "own"] [] (defScope (top 103)) := ⟨rfl, rfl, rfl, by decide +kernel, rfl, by decide +kernel, by decide +kernel⟩
def T__law_graphs : List (Str × (Nat × Fn)) := [("_law_told", 3, f__law_told)]
theorem cc__law_graphs : cSs 400 (defSC ["base", "nodes", "at", "line", "text", "form", "own"] (defScope (top 103)) (tb.tab (T__law_graphs)) 9) (defBody (top 103)) = s__law_graphs := by kernel_rfl
theorem sc__law_lines : FnScope ["machine", "right", "text", "due", "line"] [] (defScope (top 102)) := ⟨rfl, rfl, rfl, by decide +kernel, rfl, by decide +kernel, by decide +kernel⟩
def T__law_lines : List (Str × (Nat × Fn)) := [("_law_told", 3, f__law_told)]
theorem cc__law_lines : cSs 400 (defSC ["machine", "right", "text", "due", "line"] (defScope (top 102)) (tb.tab (T__law_lines)) 9) (defBody (top 102)) = s__law_lines := by kernel_rfl
theorem sc__law_codes : FnScope ["machine", "wide", "rows", "ins", "due", "twice", "loops", "parts", "one", "turn", "blocks", "code"] [] (defScope (top 101)) := ⟨rfl, rfl, rfl, by decide +kernel, rfl, by decide +kernel, by decide +kernel⟩
def T__law_codes : List (Str × (Nat × Fn)) := [("_law_told", 3, f__law_told)]
theorem cc__law_codes : cSs 400 (defSC ["machine", "wide", "rows", "ins", "due", "twice", "loops", "parts", "one", "turn", "blocks", "code"] (defScope (top 101)) (tb.tab (T__law_codes)) 9) (defBody (top 101)) = s__law_codes := by kernel_rfl
theorem sc__law_machines : FnScope ["low", "high", "k", "number"] [] (defScope (top 100)) := ⟨rfl, rfl, rfl, by decide +kernel, rfl, by decide +kernel, by decide +kernel⟩
def T__law_machines : List (Str × (Nat × Fn)) := [("_law_told", 3, f__law_told)]
theorem cc__law_machines : cSs 400 (defSC ["low", "high", "k", "number"] (defScope (top 100)) (tb.tab (T__law_machines)) 9) (defBody (top 100)) = s__law_machines := by kernel_rfl
theorem sc_law : FnScope ["script", "menu", "cell"] ["script"] (defScope (top 104)) := ⟨rfl, rfl, rfl, by decide +kernel, rfl, by decide +kernel, by decide +kernel⟩
theorem cc_law : cSs 400 (defSC ["script", "menu", "cell"] (defScope (top 104)) (tb.tab (T_law)) 10) (defBody (top 104)) = s_law := by kernel_rfl
section
variable {P : Program} {w : World} {K : PySem.W.Frag} {mg : Str → Option Value} {base : Heap}
theorem ca_check_machine (c : SaysX tb gl fn w K) (T : TbOk w K mg tb gl) : Cal P w K mg base 1 "check_machine" 1 f_check_machine :=
  cal_of c T 0 rfl (by simp [gl]) sc_check_machine (fun fd F => F.bindsN fun _ _ _ _ _ _ us hl => match us, hl with | [_], _ => rfl) Cals.nil f_check_machine (congrArg (fun z => runF z 1 2) cc_check_machine)
theorem ca_steps_in (c : SaysX tb gl fn w K) (T : TbOk w K mg tb gl) : Cal P w K mg base 1 "steps_in" 1 f_steps_in :=
  cal_of c T 1 rfl (by simp [gl]) sc_steps_in (fun fd F => F.bindsN fun _ _ _ _ _ _ us hl => match us, hl with | [_], _ => rfl) Cals.nil f_steps_in (congrArg (fun z => runF z 1 5) cc_steps_in)
theorem ca_fits_width (c : SaysX tb gl fn w K) (T : TbOk w K mg tb gl) : Cal P w K mg base 1 "fits_width" 2 f_fits_width :=
  cal_of c T 2 rfl (by simp [gl]) sc_fits_width (fun fd F => F.bindsN fun _ _ _ _ _ _ us hl => match us, hl with | [_, _], _ => rfl) Cals.nil f_fits_width (congrArg (fun z => runF z 2 2) cc_fits_width)
theorem ca_loop_in_range (c : SaysX tb gl fn w K) (T : TbOk w K mg tb gl) : Cal P w K mg base 2 "loop_in_range" 2 f_loop_in_range :=
  cal_of c T 3 rfl (by simp [gl]) sc_loop_in_range (fun fd F => F.bindsN fun _ _ _ _ _ _ us hl => match us, hl with | [_, _], _ => rfl) (Cals.cons ((ca_fits_width c T).mono (by omega)) Cals.nil) f_loop_in_range (congrArg (fun z => runF z 2 6) cc_loop_in_range)
theorem ca_fields_in_range (c : SaysX tb gl fn w K) (T : TbOk w K mg tb gl) : Cal P w K mg base 1 "fields_in_range" 2 f_fields_in_range :=
  cal_of c T 4 rfl (by simp [gl]) sc_fields_in_range (fun fd F => F.bindsN fun _ _ _ _ _ _ us hl => match us, hl with | [_, _], _ => rfl) Cals.nil f_fields_in_range (congrArg (fun z => runF z 2 2) cc_fields_in_range)
theorem ca_own_in_range (c : SaysX tb gl fn w K) (T : TbOk w K mg tb gl) : Cal P w K mg base 3 "own_in_range" 2 f_own_in_range :=
  cal_of c T 5 rfl (by simp [gl]) sc_own_in_range (fun fd F => F.bindsN fun _ _ _ _ _ _ us hl => match us, hl with | [_, _], _ => rfl) (Cals.cons ((ca_loop_in_range c T).mono (by omega)) (Cals.cons ((ca_fits_width c T).mono (by omega)) (Cals.cons ((ca_fields_in_range c T).mono (by omega)) Cals.nil))) f_own_in_range (congrArg (fun z => runF z 2 11) cc_own_in_range)
theorem ca_in_range (c : SaysX tb gl fn w K) (T : TbOk w K mg tb gl) : Cal P w K mg base 4 "in_range" 2 f_in_range :=
  cal_of c T 6 rfl (by simp [gl]) sc_in_range (fun fd F => F.bindsN fun _ _ _ _ _ _ us hl => match us, hl with | [_, _], _ => rfl) (Cals.cons ((ca_own_in_range c T).mono (by omega)) Cals.nil) f_in_range (congrArg (fun z => runF z 2 4) cc_in_range)
theorem ca_check_skip (c : SaysX tb gl fn w K) (T : TbOk w K mg tb gl) : Cal P w K mg base 1 "check_skip" 2 f_check_skip :=
  cal_of c T 7 rfl (by simp [gl]) sc_check_skip (fun fd F => F.bindsN fun _ _ _ _ _ _ us hl => match us, hl with | [_, _], _ => rfl) Cals.nil f_check_skip (congrArg (fun z => runF z 2 4) cc_check_skip)
theorem ca_depths_of (c : SaysX tb gl fn w K) (T : TbOk w K mg tb gl) : Cal P w K mg base 1 "depths_of" 1 f_depths_of :=
  cal_of c T 8 rfl (by simp [gl]) sc_depths_of (fun fd F => F.bindsN fun _ _ _ _ _ _ us hl => match us, hl with | [_], _ => rfl) Cals.nil f_depths_of (congrArg (fun z => runF z 1 4) cc_depths_of)
theorem ca_well_formed (c : SaysX tb gl fn w K) (T : TbOk w K mg tb gl) : Cal P w K mg base 1 "well_formed" 1 f_well_formed :=
  cal_of c T 9 rfl (by simp [gl]) sc_well_formed (fun fd F => F.bindsN fun _ _ _ _ _ _ us hl => match us, hl with | [_], _ => rfl) Cals.nil f_well_formed (congrArg (fun z => runF z 1 2) cc_well_formed)
theorem ca_check_code (c : SaysX tb gl fn w K) (T : TbOk w K mg tb gl) : Cal P w K mg base 5 "check_code" 2 f_check_code :=
  cal_of c T 10 rfl (by simp [gl]) sc_check_code (fun fd F => F.bindsN fun _ _ _ _ _ _ us hl => match us, hl with | [_, _], _ => rfl) (Cals.cons ((ca_steps_in c T).mono (by omega)) (Cals.cons ((ca_in_range c T).mono (by omega)) (Cals.cons ((ca_check_skip c T).mono (by omega)) (Cals.cons ((ca_depths_of c T).mono (by omega)) (Cals.cons ((ca_well_formed c T).mono (by omega)) (Cals.cons ((ca_check_machine c T).mono (by omega)) Cals.nil)))))) f_check_code (congrArg (fun z => runF z 2 5) cc_check_code)
theorem ca_read_integer (c : SaysX tb gl fn w K) (T : TbOk w K mg tb gl) : Cal P w K mg base 1 "read_integer" 2 f_read_integer :=
  cal_of c T 11 rfl (by simp [gl]) sc_read_integer (fun fd F => F.bindsN fun _ _ _ _ _ _ us hl => match us, hl with | [_, _], _ => rfl) Cals.nil f_read_integer (congrArg (fun z => runF z 2 4) cc_read_integer)
theorem ca_number_in_listing (c : SaysX tb gl fn w K) (T : TbOk w K mg tb gl) : Cal P w K mg base 2 "number_in_listing" 1 f_number_in_listing :=
  cal_ofA c T 12 rfl (by simp [gl]) sc_number_in_listing (fun fd F => F.bindsN fun _ _ _ _ _ _ us hl => match us, hl with | [_], _ => rfl) (Cals.cons ((ca_read_integer c T).mono (by omega)) Cals.nil) f_number_in_listing (congrArg (fun z => runF z 1 2) cc_number_in_listing)
theorem ca_kind_in (c : SaysX tb gl fn w K) (T : TbOk w K mg tb gl) : Cal P w K mg base 1 "kind_in" 1 f_kind_in :=
  cal_of c T 13 rfl (by simp [gl]) sc_kind_in (fun fd F => F.bindsN fun _ _ _ _ _ _ us hl => match us, hl with | [_], _ => rfl) Cals.nil f_kind_in (congrArg (fun z => runF z 1 1) cc_kind_in)
theorem ca_group_in (c : SaysX tb gl fn w K) (T : TbOk w K mg tb gl) : Cal P w K mg base 3 "group_in" 1 f_group_in :=
  cal_of c T 14 rfl (by simp [gl]) sc_group_in (fun fd F => F.bindsN fun _ _ _ _ _ _ us hl => match us, hl with | [_], _ => rfl) (Cals.cons ((ca_number_in_listing c T).mono (by omega)) Cals.nil) f_group_in (congrArg (fun z => runF z 1 3) cc_group_in)
theorem ca_do_in (c : SaysX tb gl fn w K) (T : TbOk w K mg tb gl) : Cal P w K mg base 4 "do_in" 1 f_do_in :=
  cal_of c T 15 rfl (by simp [gl]) sc_do_in (fun fd F => F.bindsN fun _ _ _ _ _ _ us hl => match us, hl with | [_], _ => rfl) (Cals.cons ((ca_group_in c T).mono (by omega)) (Cals.cons ((ca_number_in_listing c T).mono (by omega)) (Cals.cons ((ca_kind_in c T).mono (by omega)) Cals.nil))) f_do_in (congrArg (fun z => runF z 1 6) cc_do_in)
theorem ca_instruction_in (c : SaysX tb gl fn w K) (T : TbOk w K mg tb gl) : Cal P w K mg base 5 "instruction_in" 1 f_instruction_in :=
  cal_of c T 16 rfl (by simp [gl]) sc_instruction_in (fun fd F => F.bindsN fun _ _ _ _ _ _ us hl => match us, hl with | [_], _ => rfl) (Cals.cons ((ca_number_in_listing c T).mono (by omega)) (Cals.cons ((ca_kind_in c T).mono (by omega)) (Cals.cons ((ca_do_in c T).mono (by omega)) Cals.nil))) f_instruction_in (congrArg (fun z => runF z 1 4) cc_instruction_in)
theorem ca_read_code (c : SaysX tb gl fn w K) (T : TbOk w K mg tb gl) : Cal P w K mg base 6 "read_code" 2 f_read_code :=
  cal_of c T 17 rfl (by simp [gl]) sc_read_code (fun fd F => F.bindsN fun _ _ _ _ _ _ us hl => match us, hl with | [_, _], _ => rfl) (Cals.cons ((ca_check_code c T).mono (by omega)) (Cals.cons ((ca_instruction_in c T).mono (by omega)) (Cals.cons ((ca_check_machine c T).mono (by omega)) Cals.nil))) f_read_code (congrArg (fun z => runF z 2 5) cc_read_code)
theorem ca_count_of (c : SaysX tb gl fn w K) (T : TbOk w K mg tb gl) : Cal P w K mg base 1 "count_of" 1 f_count_of :=
  cal_of c T 18 rfl (by simp [gl]) sc_count_of (fun fd F => F.bindsN fun _ _ _ _ _ _ us hl => match us, hl with | [_], _ => rfl) Cals.nil f_count_of (congrArg (fun z => runF z 1 3) cc_count_of)
theorem ca_size_on (c : SaysX tb gl fn w K) (T : TbOk w K mg tb gl) : Cal P w K mg base 1 "size_on" 2 f_size_on :=
  cal_of c T 19 rfl (by simp [gl]) sc_size_on (fun fd F => F.bindsN fun _ _ _ _ _ _ us hl => match us, hl with | [_, _], _ => rfl) Cals.nil f_size_on (congrArg (fun z => runF z 2 3) cc_size_on)
theorem ca_node_work (c : SaysX tb gl fn w K) (T : TbOk w K mg tb gl) : Cal P w K mg base 2 "node_work" 3 f_node_work :=
  cal_of c T 20 rfl (by simp [gl]) sc_node_work (fun fd F => F.bindsN fun _ _ _ _ _ _ us hl => match us, hl with | [_, _, _], _ => rfl) (Cals.cons ((ca_count_of c T).mono (by omega)) (Cals.cons ((ca_size_on c T).mono (by omega)) Cals.nil)) f_node_work (congrArg (fun z => runF z 3 6) cc_node_work)
theorem ca_total_work (c : SaysX tb gl fn w K) (T : TbOk w K mg tb gl) : Cal P w K mg base 3 "total_work" 2 f_total_work :=
  cal_of c T 21 rfl (by simp [gl]) sc_total_work (fun fd F => F.bindsN fun _ _ _ _ _ _ us hl => match us, hl with | [_, _], _ => rfl) (Cals.cons ((ca_node_work c T).mono (by omega)) Cals.nil) f_total_work (congrArg (fun z => runF z 2 4) cc_total_work)
theorem ca_corners (c : SaysX tb gl fn w K) (T : TbOk w K mg tb gl) : Cal P w K mg base 1 "corners" 2 f_corners :=
  cal_of c T 22 rfl (by simp [gl]) sc_corners (fun fd F => F.bindsN fun _ _ _ _ _ _ us hl => match us, hl with | [_, _], _ => rfl) Cals.nil f_corners (congrArg (fun z => runF z 2 3) cc_corners)
theorem ca_round_off (c : SaysX tb gl fn w K) (T : TbOk w K mg tb gl) : Cal P w K mg base 1 "round_off" 2 f_round_off :=
  cal_of c T 23 rfl (by simp [gl]) sc_round_off (fun fd F => F.bindsN fun _ _ _ _ _ _ us hl => match us, hl with | [_, _], _ => rfl) Cals.nil f_round_off (congrArg (fun z => runF z 2 2) cc_round_off)
theorem ca_limit (c : SaysX tb gl fn w K) (T : TbOk w K mg tb gl) : Cal P w K mg base 1 "limit" 3 f_limit :=
  cal_of c T 24 rfl (by simp [gl]) sc_limit (fun fd F => F.bindsN fun _ _ _ _ _ _ us hl => match us, hl with | [_, _, _], _ => rfl) Cals.nil f_limit (congrArg (fun z => runF z 3 3) cc_limit)
theorem ca_pointwise_span (c : SaysX tb gl fn w K) (T : TbOk w K mg tb gl) : Cal P w K mg base 2 "pointwise_span" 3 f_pointwise_span :=
  cal_of c T 25 rfl (by simp [gl]) sc_pointwise_span (fun fd F => F.bindsN fun _ _ _ _ _ _ us hl => match us, hl with | [_, _, _], _ => rfl) (Cals.cons ((ca_corners c T).mono (by omega)) (Cals.cons ((ca_round_off c T).mono (by omega)) (Cals.cons ((ca_limit c T).mono (by omega)) Cals.nil))) f_pointwise_span (congrArg (fun z => runF z 3 7) cc_pointwise_span)
theorem ca_other_span (c : SaysX tb gl fn w K) (T : TbOk w K mg tb gl) : Cal P w K mg base 2 "other_span" 4 f_other_span :=
  cal_of c T 26 rfl (by simp [gl]) sc_other_span (fun fd F => F.bindsN fun _ _ _ _ _ _ us hl => match us, hl with | [_, _, _, _], _ => rfl) (Cals.cons ((ca_size_on c T).mono (by omega)) (Cals.cons ((ca_corners c T).mono (by omega)) Cals.nil)) f_other_span (congrArg (fun z => runF z 4 9) cc_other_span)
theorem ca_letters_of (c : SaysX tb gl fn w K) (T : TbOk w K mg tb gl) : Cal P w K mg base 1 "letters_of" 1 f_letters_of :=
  cal_of c T 27 rfl (by simp [gl]) sc_letters_of (fun fd F => F.bindsN fun _ _ _ _ _ _ us hl => match us, hl with | [_], _ => rfl) Cals.nil f_letters_of (congrArg (fun z => runF z 1 2) cc_letters_of)
theorem ca_check_letters (c : SaysX tb gl fn w K) (T : TbOk w K mg tb gl) : Cal P w K mg base 2 "check_letters" 1 f_check_letters :=
  cal_of c T 28 rfl (by simp [gl]) sc_check_letters (fun fd F => F.bindsN fun _ _ _ _ _ _ us hl => match us, hl with | [_], _ => rfl) (Cals.cons ((ca_letters_of c T).mono (by omega)) Cals.nil) f_check_letters (congrArg (fun z => runF z 1 3) cc_check_letters)
theorem ca_check_shape (c : SaysX tb gl fn w K) (T : TbOk w K mg tb gl) : Cal P w K mg base 3 "check_shape" 1 f_check_shape :=
  cal_of c T 29 rfl (by simp [gl]) sc_check_shape (fun fd F => F.bindsN fun _ _ _ _ _ _ us hl => match us, hl with | [_], _ => rfl) (Cals.cons ((ca_count_of c T).mono (by omega)) (Cals.cons ((ca_check_letters c T).mono (by omega)) Cals.nil)) f_check_shape (congrArg (fun z => runF z 1 2) cc_check_shape)
theorem ca_in_place_of (c : SaysX tb gl fn w K) (T : TbOk w K mg tb gl) : Cal P w K mg base 1 "in_place_of" 3 f_in_place_of :=
  cal_of c T 30 rfl (by simp [gl]) sc_in_place_of (fun fd F => F.bindsN fun _ _ _ _ _ _ us hl => match us, hl with | [_, _, _], _ => rfl) Cals.nil f_in_place_of (congrArg (fun z => runF z 3 5) cc_in_place_of)
theorem ca_resized (c : SaysX tb gl fn w K) (T : TbOk w K mg tb gl) : Cal P w K mg base 1 "resized" 3 f_resized :=
  cal_of c T 31 rfl (by simp [gl]) sc_resized (fun fd F => F.bindsN fun _ _ _ _ _ _ us hl => match us, hl with | [_, _, _], _ => rfl) Cals.nil f_resized (congrArg (fun z => runF z 3 4) cc_resized)
theorem ca_without (c : SaysX tb gl fn w K) (T : TbOk w K mg tb gl) : Cal P w K mg base 1 "without" 2 f_without :=
  cal_of c T 32 rfl (by simp [gl]) sc_without (fun fd F => F.bindsN fun _ _ _ _ _ _ us hl => match us, hl with | [_, _], _ => rfl) Cals.nil f_without (congrArg (fun z => runF z 2 3) cc_without)
theorem ca_spread_together (c : SaysX tb gl fn w K) (T : TbOk w K mg tb gl) : Cal P w K mg base 2 "spread_together" 2 f_spread_together :=
  cal_of c T 33 rfl (by simp [gl]) sc_spread_together (fun fd F => F.bindsN fun _ _ _ _ _ _ us hl => match us, hl with | [_, _], _ => rfl) (Cals.cons ((ca_size_on c T).mono (by omega)) Cals.nil) f_spread_together (congrArg (fun z => runF z 2 5) cc_spread_together)
theorem ca_raw_shape (c : SaysX tb gl fn w K) (T : TbOk w K mg tb gl) : Cal P w K mg base 3 "raw_shape" 3 f_raw_shape :=
  cal_of c T 34 rfl (by simp [gl]) sc_raw_shape (fun fd F => F.bindsN fun _ _ _ _ _ _ us hl => match us, hl with | [_, _, _], _ => rfl) (Cals.cons ((ca_in_place_of c T).mono (by omega)) (Cals.cons ((ca_resized c T).mono (by omega)) (Cals.cons ((ca_without c T).mono (by omega)) (Cals.cons ((ca_size_on c T).mono (by omega)) (Cals.cons ((ca_spread_together c T).mono (by omega)) Cals.nil))))) f_raw_shape (congrArg (fun z => runF z 3 6) cc_raw_shape)
theorem ca_broadcast (c : SaysX tb gl fn w K) (T : TbOk w K mg tb gl) : Cal P w K mg base 4 "broadcast" 2 f_broadcast :=
  cal_of c T 35 rfl (by simp [gl]) sc_broadcast (fun fd F => F.bindsN fun _ _ _ _ _ _ us hl => match us, hl with | [_, _], _ => rfl) (Cals.cons ((ca_check_shape c T).mono (by omega)) (Cals.cons ((ca_spread_together c T).mono (by omega)) Cals.nil)) f_broadcast (congrArg (fun z => runF z 2 3) cc_broadcast)
theorem ca_shape_of (c : SaysX tb gl fn w K) (T : TbOk w K mg tb gl) : Cal P w K mg base 5 "shape_of" 3 f_shape_of :=
  cal_of c T 36 rfl (by simp [gl]) sc_shape_of (fun fd F => F.bindsN fun _ _ _ _ _ _ us hl => match us, hl with | [_, _, _], _ => rfl) (Cals.cons ((ca_check_shape c T).mono (by omega)) (Cals.cons ((ca_raw_shape c T).mono (by omega)) (Cals.cons ((ca_broadcast c T).mono (by omega)) Cals.nil))) f_shape_of (congrArg (fun z => runF z 3 5) cc_shape_of)
theorem ca_check_extents (c : SaysX tb gl fn w K) (T : TbOk w K mg tb gl) : Cal P w K mg base 2 "check_extents" 3 f_check_extents :=
  cal_of c T 37 rfl (by simp [gl]) sc_check_extents (fun fd F => F.bindsN fun _ _ _ _ _ _ us hl => match us, hl with | [_, _, _], _ => rfl) (Cals.cons ((ca_size_on c T).mono (by omega)) Cals.nil) f_check_extents (congrArg (fun z => runF z 3 5) cc_check_extents)
theorem ca_same_but (c : SaysX tb gl fn w K) (T : TbOk w K mg tb gl) : Cal P w K mg base 2 "same_but" 3 f_same_but :=
  cal_of c T 38 rfl (by simp [gl]) sc_same_but (fun fd F => F.bindsN fun _ _ _ _ _ _ us hl => match us, hl with | [_, _, _], _ => rfl) (Cals.cons ((ca_letters_of c T).mono (by omega)) Cals.nil) f_same_but (congrArg (fun z => runF z 3 4) cc_same_but)
theorem ca_check_axes (c : SaysX tb gl fn w K) (T : TbOk w K mg tb gl) : Cal P w K mg base 3 "check_axes" 3 f_check_axes :=
  cal_of c T 39 rfl (by simp [gl]) sc_check_axes (fun fd F => F.bindsN fun _ _ _ _ _ _ us hl => match us, hl with | [_, _, _], _ => rfl) (Cals.cons ((ca_same_but c T).mono (by omega)) (Cals.cons ((ca_letters_of c T).mono (by omega)) Cals.nil)) f_check_axes (congrArg (fun z => runF z 3 6) cc_check_axes)
theorem ca_within (c : SaysX tb gl fn w K) (T : TbOk w K mg tb gl) : Cal P w K mg base 1 "within" 3 f_within :=
  cal_of c T 40 rfl (by simp [gl]) sc_within (fun fd F => F.bindsN fun _ _ _ _ _ _ us hl => match us, hl with | [_, _, _], _ => rfl) Cals.nil f_within (congrArg (fun z => runF z 3 4) cc_within)
theorem ca_check_fields (c : SaysX tb gl fn w K) (T : TbOk w K mg tb gl) : Cal P w K mg base 2 "check_fields" 2 f_check_fields :=
  cal_of c T 41 rfl (by simp [gl]) sc_check_fields (fun fd F => F.bindsN fun _ _ _ _ _ _ us hl => match us, hl with | [_, _], _ => rfl) (Cals.cons ((ca_within c T).mono (by omega)) (Cals.cons ((ca_fields_in_range c T).mono (by omega)) Cals.nil)) f_check_fields (congrArg (fun z => runF z 2 3) cc_check_fields)
theorem ca_check_form (c : SaysX tb gl fn w K) (T : TbOk w K mg tb gl) : Cal P w K mg base 2 "check_form" 2 f_check_form :=
  cal_of c T 42 rfl (by simp [gl]) sc_check_form (fun fd F => F.bindsN fun _ _ _ _ _ _ us hl => match us, hl with | [_, _], _ => rfl) (Cals.cons ((ca_count_of c T).mono (by omega)) Cals.nil) f_check_form (congrArg (fun z => runF z 2 6) cc_check_form)
theorem ca_domain_of (c : SaysX tb gl fn w K) (T : TbOk w K mg tb gl) : Cal P w K mg base 6 "domain_of" 2 f_domain_of :=
  cal_of c T 43 rfl (by simp [gl]) sc_domain_of (fun fd F => F.bindsN fun _ _ _ _ _ _ us hl => match us, hl with | [_, _], _ => rfl) (Cals.cons ((ca_pointwise_span c T).mono (by omega)) (Cals.cons ((ca_other_span c T).mono (by omega)) (Cals.cons ((ca_shape_of c T).mono (by omega)) (Cals.cons ((ca_check_extents c T).mono (by omega)) (Cals.cons ((ca_check_axes c T).mono (by omega)) (Cals.cons ((ca_check_shape c T).mono (by omega)) (Cals.cons ((ca_check_fields c T).mono (by omega)) (Cals.cons ((ca_check_form c T).mono (by omega)) Cals.nil)))))))) f_domain_of (congrArg (fun z => runF z 2 11) cc_domain_of)
theorem ca_check_graph (c : SaysX tb gl fn w K) (T : TbOk w K mg tb gl) : Cal P w K mg base 7 "check_graph" 1 f_check_graph :=
  cal_of c T 44 rfl (by simp [gl]) sc_check_graph (fun fd F => F.bindsN fun _ _ _ _ _ _ us hl => match us, hl with | [_], _ => rfl) (Cals.cons ((ca_total_work c T).mono (by omega)) (Cals.cons ((ca_domain_of c T).mono (by omega)) Cals.nil)) f_check_graph (congrArg (fun z => runF z 1 6) cc_check_graph)
theorem ca_number_in_notation (c : SaysX tb gl fn w K) (T : TbOk w K mg tb gl) : Cal P w K mg base 2 "number_in_notation" 1 f_number_in_notation :=
  cal_ofA c T 45 rfl (by simp [gl]) sc_number_in_notation (fun fd F => F.bindsN fun _ _ _ _ _ _ us hl => match us, hl with | [_], _ => rfl) (Cals.cons ((ca_read_integer c T).mono (by omega)) Cals.nil) f_number_in_notation (congrArg (fun z => runF z 1 2) cc_number_in_notation)
theorem ca_letter_in (c : SaysX tb gl fn w K) (T : TbOk w K mg tb gl) : Cal P w K mg base 1 "letter_in" 1 f_letter_in :=
  cal_of c T 46 rfl (by simp [gl]) sc_letter_in (fun fd F => F.bindsN fun _ _ _ _ _ _ us hl => match us, hl with | [_], _ => rfl) Cals.nil f_letter_in (congrArg (fun z => runF z 1 1) cc_letter_in)
theorem ca_letters_in (c : SaysX tb gl fn w K) (T : TbOk w K mg tb gl) : Cal P w K mg base 2 "letters_in" 1 f_letters_in :=
  cal_of c T 47 rfl (by simp [gl]) sc_letters_in (fun fd F => F.bindsN fun _ _ _ _ _ _ us hl => match us, hl with | [_], _ => rfl) (Cals.cons ((ca_letter_in c T).mono (by omega)) Cals.nil) f_letters_in (congrArg (fun z => runF z 1 2) cc_letters_in)
theorem ca_read_natural (c : SaysX tb gl fn w K) (T : TbOk w K mg tb gl) : Cal P w K mg base 2 "read_natural" 2 f_read_natural :=
  cal_of c T 48 rfl (by simp [gl]) sc_read_natural (fun fd F => F.bindsN fun _ _ _ _ _ _ us hl => match us, hl with | [_, _], _ => rfl) (Cals.cons ((ca_read_integer c T).mono (by omega)) Cals.nil) f_read_natural (congrArg (fun z => runF z 2 2) cc_read_natural)
theorem ca_shape_in (c : SaysX tb gl fn w K) (T : TbOk w K mg tb gl) : Cal P w K mg base 3 "shape_in" 1 f_shape_in :=
  cal_of c T 49 rfl (by simp [gl]) sc_shape_in (fun fd F => F.bindsN fun _ _ _ _ _ _ us hl => match us, hl with | [_], _ => rfl) (Cals.cons ((ca_read_natural c T).mono (by omega)) (Cals.cons ((ca_letter_in c T).mono (by omega)) Cals.nil)) f_shape_in (congrArg (fun z => runF z 1 6) cc_shape_in)
theorem ca_fields_in (c : SaysX tb gl fn w K) (T : TbOk w K mg tb gl) : Cal P w K mg base 4 "fields_in" 2 f_fields_in :=
  cal_of c T 50 rfl (by simp [gl]) sc_fields_in (fun fd F => F.bindsN fun _ _ _ _ _ _ us hl => match us, hl with | [_, _], _ => rfl) (Cals.cons ((ca_letter_in c T).mono (by omega)) (Cals.cons ((ca_number_in_notation c T).mono (by omega)) (Cals.cons ((ca_letters_in c T).mono (by omega)) (Cals.cons ((ca_shape_in c T).mono (by omega)) Cals.nil)))) f_fields_in (congrArg (fun z => runF z 2 5) cc_fields_in)
theorem ca_node_in (c : SaysX tb gl fn w K) (T : TbOk w K mg tb gl) : Cal P w K mg base 5 "node_in" 1 f_node_in :=
  cal_of c T 51 rfl (by simp [gl]) sc_node_in (fun fd F => F.bindsN fun _ _ _ _ _ _ us hl => match us, hl with | [_], _ => rfl) (Cals.cons ((ca_fields_in c T).mono (by omega)) (Cals.cons ((ca_number_in_notation c T).mono (by omega)) Cals.nil)) f_node_in (congrArg (fun z => runF z 1 6) cc_node_in)
theorem ca_read_graph (c : SaysX tb gl fn w K) (T : TbOk w K mg tb gl) : Cal P w K mg base 8 "read_graph" 1 f_read_graph :=
  cal_of c T 52 rfl (by simp [gl]) sc_read_graph (fun fd F => F.bindsN fun _ _ _ _ _ _ us hl => match us, hl with | [_], _ => rfl) (Cals.cons ((ca_check_graph c T).mono (by omega)) (Cals.cons ((ca_number_in_notation c T).mono (by omega)) (Cals.cons ((ca_node_in c T).mono (by omega)) Cals.nil))) f_read_graph (congrArg (fun z => runF z 1 7) cc_read_graph)
theorem ca__law_told (c : SaysX tb gl fn w K) (T : TbOk w K mg tb gl) : Cal P w K mg base 9 "_law_told" 3 f__law_told :=
  cal_of c T 53 rfl (by simp [gl]) sc__law_told (fun fd F => F.bindsN fun _ _ _ _ _ _ us hl => match us, hl with | [_, _, _], _ => rfl) (Cals.cons ((ca_check_machine c T).mono (by omega)) (Cals.cons ((ca_check_code c T).mono (by omega)) (Cals.cons ((ca_read_code c T).mono (by omega)) (Cals.cons ((ca_read_graph c T).mono (by omega)) Cals.nil)))) f__law_told (congrArg (fun z => runF z 3 5) cc__law_told)
theorem ca__law_graphs (c : SaysX tb gl fn w K) (T : TbOk w K mg tb gl) : Cal P w K mg base 10 "_law_graphs" 0 f__law_graphs :=
  cal_of c T 54 rfl (by simp [gl]) sc__law_graphs (fun fd F => F.bindsN fun _ _ _ _ _ _ us hl => match us, hl with | [], _ => rfl) (Cals.cons ((ca__law_told c T).mono (by omega)) Cals.nil) f__law_graphs (congrArg (fun z => runF z 0 7) cc__law_graphs)
theorem ca__law_lines (c : SaysX tb gl fn w K) (T : TbOk w K mg tb gl) : Cal P w K mg base 10 "_law_lines" 0 f__law_lines :=
  cal_of c T 55 rfl (by simp [gl]) sc__law_lines (fun fd F => F.bindsN fun _ _ _ _ _ _ us hl => match us, hl with | [], _ => rfl) (Cals.cons ((ca__law_told c T).mono (by omega)) Cals.nil) f__law_lines (congrArg (fun z => runF z 0 5) cc__law_lines)
theorem ca__law_codes (c : SaysX tb gl fn w K) (T : TbOk w K mg tb gl) : Cal P w K mg base 10 "_law_codes" 0 f__law_codes :=
  cal_of c T 56 rfl (by simp [gl]) sc__law_codes (fun fd F => F.bindsN fun _ _ _ _ _ _ us hl => match us, hl with | [], _ => rfl) (Cals.cons ((ca__law_told c T).mono (by omega)) Cals.nil) f__law_codes (congrArg (fun z => runF z 0 12) cc__law_codes)
theorem ca__law_machines (c : SaysX tb gl fn w K) (T : TbOk w K mg tb gl) : Cal P w K mg base 10 "_law_machines" 0 f__law_machines :=
  cal_of c T 57 rfl (by simp [gl]) sc__law_machines (fun fd F => F.bindsN fun _ _ _ _ _ _ us hl => match us, hl with | [], _ => rfl) (Cals.cons ((ca__law_told c T).mono (by omega)) Cals.nil) f__law_machines (congrArg (fun z => runF z 0 4) cc__law_machines)
theorem law_is (c : SaysX tb gl fn w K) (T : TbOk w K mg tb gl) : LawOk P w K mg 11 f_law :=
  law_of c T 58 rfl (by simp [gl]) sc_law (fun fd F => F.bindsA (ps := ["script"]) fun _ _ _ _ _ _ us hl => match us, hl with | [_], _ => rfl) (fun base => (Cals.cons ((ca__law_graphs c T).mono (by omega)) (Cals.cons ((ca__law_lines c T).mono (by omega)) (Cals.cons ((ca__law_codes c T).mono (by omega)) (Cals.cons ((ca__law_machines c T).mono (by omega)) Cals.nil))))) f_law (congrArg (fun z => runF z 1 3) cc_law)
end
abbrev hk : PySem.W.Hook := hookX 4 tb gl fn
end Lk81

/-! More steps: methods, slices, loops over cells, lists of numbers. -/
namespace Dy
open PySem PySem.Spec PyProof.Rows L2
section
variable {e e1 : Dy.Env} {h h1 : PH} {b : SM} {c : Str} {d : D} {ds xs : List D} {t : Tgt} {l n i : Nat} {s : Str} {k : Int}
/-! ### methods -/
def isLst (o : Option Cell) : Bool := match o with
  | some (.lst _) => true
  | _ => false
@[simp] theorem isLst_1 : isLst (some (.lst ds)) = true := rfl
theorem tyOk_ref : tyOk "list" h (.ref n) = isLst (h.at n) := by
  show (match h.cs[n]? with | some (.lst _) => ("list" : String) == "list" | some (.dict _) => ("list" : String) == "dict" | _ => false) = _
  rw [PH.at_eq]
  unfold isLst
  cases h.cs[n]? with
  | none => rfl
  | some c => cases c <;> first | rfl | exact (by decide +kernel)
def Res.m1 (r : Res D) (T : String) (f : D → List D → PH → Res D) (a : AM) (e : Dy.Env) : Res D := r.bind fun x h1 => if tyOk T h1 x = true then (a e h1).bind fun xs h2 => f x xs h2 else .stuck
def Res.m2 (r : Res (List D)) (f : D → List D → PH → Res D) (d : D) : Res D := r.bind (f d)
@[simp] theorem mtE_fr {T : String} {f : D → List D → PH → Res D} {o : EM} {a : AM} : mtE T f o a e h = (o e h).m1 T f a e := rfl
@[simp] theorem m1_ref {f : D → List D → PH → Res D} {a : AM} : (Res.ok (.ref n) h).m1 "list" f a e = if isLst (h.at n) = true then (a e h).m2 f (.ref n) else .stuck := by
  rw [← tyOk_ref]; rfl
def isDct (o : Option Cell) : Bool := match o with
  | some (.dict _) => true
  | _ => false
theorem tyOk_refD : tyOk "dict" h (.ref n) = isDct (h.at n) := by
  show (match h.cs[n]? with | some (.lst _) => ("dict" : String) == "list" | some (.dict _) => ("dict" : String) == "dict" | _ => false) = _
  rw [PH.at_eq]
  unfold isDct
  cases h.cs[n]? with
  | none => rfl
  | some c => cases c <;> first | rfl | exact (by decide +kernel)
@[simp] theorem m1_refD {f : D → List D → PH → Res D} {a : AM} : (Res.ok (.ref n) h).m1 "dict" f a e = if isDct (h.at n) = true then (a e h).m2 f (.ref n) else .stuck := by
  rw [← tyOk_refD]; rfl
theorem dget_ap {kvs : List (D × D)} {k : Str} {z : D} (q : h.at n = some (.dict kvs)) : dgetF (.ref n) [.str k, z] h = .ok ((dGetL kvs k).getD z) h := by
  show (match h.cs[n]? with | some (.dict kvs) => (match dGetL kvs k with | some d => Res.ok d h | none => .ok z h) | _ => .stuck) = _
  rw [PH.at_eq] at q
  rw [q]
  cases e : dGetL kvs k <;> simp [e]
@[simp] theorem raise1S_ap {c : Str} {m : EM} : raise1S c m e h = (m e h).bindS e fun _ h1 => .exc c e h1 := rfl
@[simp] theorem m1_str {f : D → List D → PH → Res D} {a : AM} : (Res.ok (.str s) h).m1 "str" f a e = (a e h).m2 f (.str s) := by
  have q : tyOk "str" h (.str s) = true := by show (("str" : String) == "str") = true; decide +kernel
  show (if tyOk "str" h (.str s) = true then (a e h).bind (fun xs h2 => f (.str s) xs h2) else .stuck) = _
  rw [if_pos q]; rfl
@[simp] theorem m2_ok {f : D → List D → PH → Res D} : (Res.ok ds h).m2 f d = f d ds h := rfl
@[simp] theorem revF_refO : revF (.ref n) h = withL (lstO (h.at n)) fun ds => .ok (.ref h.cs.length) (h.push (.lst ds.reverse)) := by
  unfold revF
  rw [itemsL_ref]
  cases lstO (h.at n) <;> rfl
@[simp] theorem slF_tup {lo hi : Option Int} : slF (.tup ds) lo hi h = .ok (.tup (cutD ds lo hi)) h := rfl
/-! ### numbers in lists -/
@[simp] theorem intsOf_map : ∀ ns : List Int, intsOf (ns.map D.int) = some ns
  | [] => rfl
  | n :: ns => by
    show (match intsOf (ns.map D.int) with | some l => some (n :: l) | none => none) = _
    rw [intsOf_map ns]
theorem ltF_ints {ns ms : List Int} : ltF (.tup (ns.map .int)) (.tup (ms.map .int)) h = .ok (.bl (HT.lexLt ns ms)) h := by
  show (match intsOf (ns.map D.int), intsOf (ms.map D.int) with | some ns, some ms => Res.ok (D.bl (HT.lexLt ns ms)) h | _, _ => .stuck) = _
  rw [intsOf_map, intsOf_map]
theorem lex_app {a b : List Int} {x y : Int} (q : a.length = b.length) : HT.lexLt (a ++ [x]) (b ++ [y]) = (HT.lexLt a b || (decide (a = b) && decide (x < y))) := by
  induction a generalizing b with
  | nil =>
    cases b with
    | nil =>
      show (if x = y then HT.lexLt [] [] else decide (x < y)) = _
      split
      · rename_i z; subst z; simp [HT.lexLt]
      · simp [HT.lexLt]
    | cons _ _ => cases q
  | cons u a ih =>
    cases b with
    | nil => cases q
    | cons v b =>
      have := ih (b := b) (by simpa using q)
      show (if u = v then HT.lexLt (a ++ [x]) (b ++ [y]) else decide (u < v)) = ((if u = v then HT.lexLt a b else decide (u < v)) || _)
      by_cases z : u = v
      · subst z; simp [this]
      · simp [z]
/-! ### loops over the items of any source -/
theorem forL_fold {sr : Src} {I : Nat → Dy.Env → Prop} (n : Nat)
    (step : ∀ i e, i < n → I i e → ∃ d e1 e2, sr.item i h = some (some d) ∧ tgt t d e h = some e1 ∧ b e1 h = .nxt e2 h ∧ I (i + 1) e2) (fin : sr.item n h = some none) (hl : h.cs.length ≤ l) (z : I 0 e) : ∃ e', forL t b sr l (n + 1) 0 e h = .nxt e' h ∧ I n e' := by
  refine forL_by (n := n) (Q := fun o => ∃ e', o = .nxt e' h ∧ I n e') (fun i e h' => h' = h ∧ I i e) (fun i e h' hi ⟨e0, z⟩ => ?_) (fun e h' ⟨e0, z⟩ => ?_) _ _ _ _ (by omega) (Nat.zero_le _) ⟨rfl, z⟩
  · subst e0
    obtain ⟨d, e1, e2, h1, h2, h3, h4⟩ := step i e hi z
    refine ⟨d, e1, h1, h2, ?_⟩
    rw [h3]
    exact ⟨gc_max hl, h4⟩
  · subst e0
    exact ⟨fin, e, rfl, z⟩
/-- .. values -/
theorem forV_fold {I : Nat → Dy.Env → Prop} (hl : h.cs.length ≤ l) (step : ∀ i e d, xs[i]? = some d → I i e → ∃ e1 e2, tgt t d e h = some e1 ∧ b e1 h = .nxt e2 h ∧ I (i + 1) e2) (z : I 0 e) : ∃ e', forV t b l xs e h = .nxt e' h ∧ I xs.length e' := by
  have w := forL_fold (t := t) (b := b) (sr := .vals xs) (I := I) (h := h) (e := e) (l := l) xs.length (fun i e hi z => by
    have e0 : xs[i]? = some xs[i] := List.getElem?_eq_getElem hi
    obtain ⟨e1, e2, h1, h2, h3⟩ := step i e _ e0 z
    exact ⟨_, e1, e2, by rw [item_vals, e0], h1, h2, h3⟩) (by rw [item_vals, List.getElem?_eq_none (by omega)]) hl z
  rw [forL_forV _ _ _ _ (by omega) (by omega)] at w
  exact w
/-- .. a cell's items, which the turns leave as they are -/
theorem lp_cellO : (Res.ok (.ref n) h).bind srcF = withL (α := Src) (lstO (h.at n)) (fun _ => .ok (.cell n) h) := by
  show (match h.cs[n]? with | some (.lst _) => Res.ok (Src.cell n) h | _ => .stuck) = _
  rw [PH.at_eq]
  cases e : h.cs[n]? with
  | none => rfl
  | some c => cases c <;> rfl
@[simp] theorem srcF_ref : srcF (.ref n) h = withL (α := Src) (lstO (h.at n)) (fun _ => .ok (.cell n) h) := lp_cellO
theorem lp_cell_fold {I : Nat → Dy.Env → Prop} (hc : h.at n = some (.lst xs)) (step : ∀ i e d, xs[i]? = some d → I i e → ∃ e1 e2, tgt t d e h = some e1 ∧ b e1 h = .nxt e2 h ∧ I (i + 1) e2) (z : I 0 e) : ∃ e', (Res.ok (.cell n) h).lp t b e = .nxt e' h ∧ I xs.length e' := by
  rw [PH.at_eq] at hc
  have f : (Src.cell n).fuel h = xs.length + 1 := by
    show (match h.cs[n]? with | some (.lst ds) => ds.length + 1 | _ => 0) = _
    rw [hc]
  have w := forL_fold (t := t) (b := b) (sr := .cell n) (I := I) (h := h) (e := e) (l := h.cs.length) xs.length (fun i e hi z => by
    have e0 : xs[i]? = some xs[i] := List.getElem?_eq_getElem hi
    obtain ⟨e1, e2, h1, h2, h3⟩ := step i e _ e0 z
    exact ⟨_, e1, e2, by rw [item_cell hc, e0], h1, h2, h3⟩) (by rw [item_cell hc, List.getElem?_eq_none (by omega)]) (Nat.le_refl _) z
  rw [lp_cell, f]
  exact w
theorem draw (q : Dst) (m : Int) (h1 : 0 < m) (h2 : m < 1000000) : ∃ r q', takeV q m = r ∧ takeQ q m = q' ∧ 0 ≤ r ∧ r < m := ⟨_, _, rfl, rfl, takeV_0, takeV_lt h1 (sm_lt (by omega) (by omega))⟩
end
end Dy

namespace Lk81
open PySem PySem.Spec PyProof.Rows L2 Dy
def okT : Res D → Bool
  | .ok (.bl true) _ => true
  | _ => false
theorem okT_is {r : Res D} (h : okT r = true) : ∃ h', r = .ok (.bl true) h' := by
  unfold okT at h
  split at h
  · exact ⟨_, rfl⟩
  · cases h
def hh : PH := ⟨[.lst [.glb "_law_machines", .glb "_law_codes", .glb "_law_lines", .glb "_law_graphs"]], 0⟩
theorem m1 : okT (f__law_machines [] hh) = true := by decide +kernel
theorem m2 : okT (f__law_codes [] hh) = true := by decide +kernel
theorem m3 : okT (f__law_lines [] hh) = true := by decide +kernel
theorem m4 : okT (f__law_graphs [] hh) = true := by decide +kernel
theorem turn {x0 : Option D} {m n : Int} {h : PH} : b_law_0 [x0, some (.int m), some (.int n)] h = .nxt [x0, some (.int ((m + (if n < 0 then -n else n)) % 4)), some (.int n)] h := by
  have s4 : sm 4 := sm_lt (by omega) (by omega)
  unfold b_law_0
  simp [s4]
theorem loop {x0 : Option D} {h : PH} (hl : h.lim ≤ h.cs.length) : ∀ (s : List Int) (m : Int) (r : Option D), 0 ≤ m → m < 4 → ∃ m' r', 0 ≤ m' ∧ m' < 4 ∧ forV (.one 2) b_law_0 h.cs.length (s.map D.int) [x0, some (.int m), r] h = .nxt [x0, some (.int m'), r'] h
  | [], m, r, h0, h1 => ⟨m, r, h0, h1, rfl⟩
  | n :: s, m, r, h0, h1 => by
    obtain ⟨m', r', a, b, c⟩ := loop hl s ((m + (if n < 0 then -n else n)) % 4) (some (.int n)) (by omega) (by omega)
    refine ⟨m', r', a, b, ?_⟩
    rw [List.map_cons, forV_cons, tgt_one, tgtO_some]
    show (b_law_0 [x0, some (.int m), some (.int n)] h).nextV _ _ _ _ = _
    rw [turn, nextV_nxt, gc_max (Nat.le_refl _)]
    exact c
theorem pick {m : Int} (h0 : 0 ≤ m) (h1 : m < 4) {x0 x2 : Option D} : ∃ h', callVF (fun x => List.lookup x T_law) (b2E ixF (nA lstF (consA (cE (.glb "_law_machines")) (consA (cE (.glb "_law_codes")) (consA (cE (.glb "_law_lines")) (consA (cE (.glb "_law_graphs")) (nilA)))))) (vE 1)) (nilA) [x0, some (.int m), x2] ⟨[], 0⟩ = .ok (.bl true) h' := by
  have e : ∀ x, atI [D.glb "_law_machines", .glb "_law_codes", .glb "_law_lines", .glb "_law_graphs"] m = some (.glb x) → ∀ f, List.lookup x T_law = some (0, f) → callVF (fun x => List.lookup x T_law) (b2E ixF (nA lstF (consA (cE (.glb "_law_machines")) (consA (cE (.glb "_law_codes")) (consA (cE (.glb "_law_lines")) (consA (cE (.glb "_law_graphs")) (nilA)))))) (vE 1)) (nilA) [x0, some (.int m), x2] ⟨[], 0⟩ = f [] hh := fun x hx f hf => by
    have e1 : b2E ixF (nA lstF (consA (cE (.glb "_law_machines")) (consA (cE (.glb "_law_codes")) (consA (cE (.glb "_law_lines")) (consA (cE (.glb "_law_graphs")) (nilA)))))) (vE 1) [x0, some (.int m), x2] ⟨[], 0⟩ = .ok (.glb x) hh := by
      simp [hx, hh]
    unfold callVF
    rw [e1, bind_ok]
    simp only [hf]
    rfl
  rcases (show m = 0 ∨ m = 1 ∨ m = 2 ∨ m = 3 by omega) with rfl | rfl | rfl | rfl
  · rw [e "_law_machines" (by simp) f__law_machines (by kernel_rfl)]; exact okT_is m1
  · rw [e "_law_codes" (by simp) f__law_codes (by kernel_rfl)]; exact okT_is m2
  · rw [e "_law_lines" (by simp) f__law_lines (by kernel_rfl)]; exact okT_is m3
  · rw [e "_law_graphs" (by simp) f__law_graphs (by kernel_rfl)]; exact okT_is m4
theorem key (s : List Int) {m : Int} {r : Option D} (c : forV (.one 2) b_law_0 0 (s.map D.int) [some (.frl (s.map D.int)), some (.int 0), none] ⟨[], 0⟩ = .nxt [some (.frl (s.map D.int)), some (.int m), r] ⟨[], 0⟩) (E : EM) (h' : PH)
    (p : E [some (.frl (s.map D.int)), some (.int m), r] ⟨[], 0⟩ = .ok (.bl true) h') : ∃ h, runF (seqS (asgS (cE (.int 0)) (.one 1)) (seqS (forS (srcE (vE 0)) (.one 2) b_law_0) (seqS (retS E) (nextS)))) 1 3 [.frl (s.map .int)] ⟨[], 0⟩ = .ok (.bl true) h := by
  refine ⟨h'.cut (max 0 (max h'.lim 0)), ?_⟩
  simp [c, p]
theorem pure_law (s : List Int) (hl : s.length ≤ 63) : ∃ h, f_law [.frl (s.map .int)] ⟨[], 0⟩ = .ok (.bl true) h := by
  obtain ⟨m, r, h0, h1, c⟩ := loop (x0 := some (.frl (s.map D.int))) (h := ⟨[], 0⟩) (Nat.le_refl _) s 0 none (by omega) (by omega)
  obtain ⟨h', p⟩ := pick h0 h1 (x0 := some (.frl (s.map D.int))) (x2 := r)
  exact key s c _ h' p
end Lk81

open PySem PySem.W PySem.Calls PyProof.Rows
theorem PySem.Challenge.cw_tensorcompiler_k81_both_sides_of_each_bo_holds : PySem.Challenge.rw_tensorcompiler_k81_both_sides_of_each_bo.Holds := by
  w_on; o_law
  o_head Lk81.hk
  case hw => w_witness2
  case hc =>
    refine Dy.law_end (l := PySem.Challenge.rw_tensorcompiler_k81_both_sides_of_each_bo) (k := 11) (n := 4) (t := Lk81.tb) (gl := Lk81.gl) (fn := Lk81.fn) (f := Lk81.f_law) rfl ?a ⟨rfl, by decide, by decide⟩ ?b (fun w K mg c T => Lk81.law_is c T) Lk81.pure_law
    case a => rfl
    case b => rfl
