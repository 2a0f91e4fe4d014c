import PyProof.Rows.All
import Wide.All
import OpenK.AllK
import Wide.FinOn
import HandS.ForMost
import HandS.Exc
import HandS.TryOnly
import HandS.ExcOwn
import HandS.WordsExc
import HandS.CallSlots
import HandS.Flow
import HandS.Wide
import HandS.Rev
import HandS.RevRange
import HandS.WideBits
import HandS.HeadHook2
import HandS.TupAny
import HandS.TupMul
import PyProof.StrOps2
import HandS.Deep
import HandS.Style
import HandS.SortInts
import HandS.StrMore
import HandS.IsInst
import HandS.ExcIs
import HandS.Gcd
import HandS.FStr
import HandS.Head0
import HandS.Head1
import HandS.Head2
import HandS.HeadEnd
import PySem.Challenge.RW_tensorcompiler_k42_lives_of_buffers
set_option Elab.async false
set_option linter.all false
set_option maxRecDepth 100000
set_option maxHeartbeats 4000000
/-! Values without a heap, cells, and how they lie in the abstract heap. -/
namespace Dy
open PySem PySem.Spec PyProof.Rows L2

inductive D where
  | non | bl (b : Bool) | int (i : Int) | str (x : Str) | tup (ds : List D) | frl (ds : List D) | ref (n : Nat) | ty (n : String) | glb (x : Str)

mutual
/-- one more than the greatest cell's number that is named -/
def D.mr : D → Nat
  | .tup ds => mrL ds
  | .frl ds => mrL ds
  | .ref n => n + 1
  | .non => 0
  | .bl _ => 0
  | .int _ => 0
  | .str _ => 0
  | .ty _ => 0
  | .glb _ => 0
def mrL : List D → Nat
  | [] => 0
  | d :: ds => max d.mr (mrL ds)
end
def mrF : List (Str × D) → Nat
  | [] => 0
  | p :: r => max p.2.mr (mrF r)
def mrK : List (D × D) → Nat
  | [] => 0
  | p :: r => max (max p.1.mr p.2.mr) (mrK r)

inductive Cell where
  | lst (ds : List D)
  | inst (c : Str) (fs : List (Str × D))
  | dict (kvs : List (D × D))
def Cell.mr : Cell → Nat
  | .lst ds => mrL ds
  | .inst _ fs => mrF fs
  | .dict kvs => mrK kvs

structure PH where
  cs : List Cell
  lim : Nat

structure Wf (h : PH) : Prop where
  le : h.lim ≤ h.cs.length
  at_ : ∀ n c, h.cs[n]? = some c → c.mr ≤ max n h.lim

/-! ### how a value lies -/
/-- the written part; the slot and the address of the exception that an except suite holds -/
structure KX where
  K : PySem.W.Frag
  hx : Option (Nat × Addr)
instance : Coe KX PySem.W.Frag := ⟨KX.K⟩
def KX.J (K : KX) (σ : L2.St) : Prop := match K.hx with
  | none => True
  | some (i, a) => σ[i]? = some (some (.ref a))
def KX.can (K : KX) (i : Nat) : Prop := match K.hx with
  | none => True
  | some (j, _) => i ≠ j
theorem KX.J_set {K : KX} {σ : L2.St} {i : Nat} {o : Option V} (c : K.can i) (h : K.J σ) : K.J (σ.set i o) := by
  obtain ⟨F, hx⟩ := K
  cases hx with
  | none => trivial
  | some p =>
    obtain ⟨j, a⟩ := p
    have c' : i ≠ j := c
    have h' : σ[j]? = some (some (.ref a)) := h
    show (σ.set i o)[j]? = _
    rw [List.getElem?_set_ne c']; exact h'
theorem KX.J_wipe {K : KX} {σ : L2.St} : ∀ {vs : List Nat}, (∀ i ∈ vs, K.can i) → K.J σ → K.J (wipe σ vs)
  | [], _, h => h
  | v :: vs, c, h => KX.J_set (c v List.mem_cons_self) (KX.J_wipe (fun i hi => c i (List.mem_cons_of_mem _ hi)) h)
/-- a list that is only read -/
def FrzL (K : PySem.W.Frag) (H : Hp) (a : Addr) (xs : List V) : Prop :=
  (∃ o, H a = some (.frz o (.lst xs))) ∨ ∃ (o : Obj) (its : Array Value) (n : Nat), K.lookup a = some o ∧ o.cls = .type "list" ∧ o.dict = none ∧ o.data = .seq its n ∧ its.size ≤ sizeLine ∧ Vals xs its.toList
theorem FrzL.sq {K : PySem.W.Frag} {H : Hp} {a : Addr} {xs : List V} (h : FrzL K H a xs) : SqL K H a xs := by
  rcases h with h | h
  · exact .inl (.inr h)
  · exact .inr h
section
variable (K : KX) (ρ : List Addr) (H : Hp)
mutual
def Is : D → V → Prop
  | .non, v => v = .non
  | .bl b, v => v = .bl b
  | .int i, v => v = .int i
  | .str x, v => v = .str x
  | .tup ds, v => ∃ a xs, v = .ref a ∧ SqT K H a xs ∧ IsL ds xs
  | .frl ds, v => ∃ a xs, v = .ref a ∧ FrzL K H a xs ∧ IsL ds xs
  | .ref n, v => ∃ a, ρ[n]? = some a ∧ v = .ref a
  | .ty n, v => v = .ty n
  | .glb x, v => v = .ref (He.ga K x)
def IsL : List D → List V → Prop
  | [], xs => xs = []
  | d :: ds, xs => ∃ x r, xs = x :: r ∧ Is d x ∧ IsL ds r
end
def IsF : List (Str × D) → List (Str × V) → Prop
  | [], xs => xs = []
  | p :: r, xs => ∃ v s, xs = (p.1, v) :: s ∧ Is K ρ H p.2 v ∧ IsF r s
end

theorem IsL.length {K : KX} {ρ : List Addr} {H : Hp} : ∀ {ds : List D} {xs : List V}, IsL K ρ H ds xs → xs.length = ds.length
  | [], xs, h => by unfold IsL at h; subst h; rfl
  | d :: ds, xs, h => by
    unfold IsL at h
    obtain ⟨x, r, rfl, _, h2⟩ := h
    simp [IsL.length h2]

def TupsKeep (H H' : Hp) : Prop := (∀ a xs, H a = some (.tup xs) → H' a = some (.tup xs)) ∧ (∀ a o u, H a = some (.frz o u) → H' a = some (.frz o u))

theorem SqT.keep {K : PySem.W.Frag} {H H' : Hp} {a : Addr} {xs : List V} (k : TupsKeep H H') (h : SqT K H a xs) : SqT K H' a xs := by
  rcases h with (h | ⟨o, h⟩) | h
  · exact .inl (.inl (k.1 _ _ h))
  · exact .inl (.inr ⟨o, k.2 _ _ _ h⟩)
  · exact .inr h
theorem FrzL.keep {K : PySem.W.Frag} {H H' : Hp} {a : Addr} {xs : List V} (k : TupsKeep H H') (h : FrzL K H a xs) : FrzL K H' a xs := by
  rcases h with ⟨o, h⟩ | h
  · exact .inl ⟨o, k.2 _ _ _ h⟩
  · exact .inr h

mutual
theorem Is.mono {K : KX} {ρ ρ' : List Addr} {H H' : Hp} (k : TupsKeep H H') (n : Nat) (p : ∀ i, i < n → ∀ a, ρ[i]? = some a → ρ'[i]? = some a) : ∀ (d : D) (v : V), d.mr ≤ n → Is K ρ H d v → Is K ρ' H' d v
  | .non, v, _, h => by unfold Is at h ⊢; exact h
  | .bl b, v, _, h => by unfold Is at h ⊢; exact h
  | .int b, v, _, h => by unfold Is at h ⊢; exact h
  | .str b, v, _, h => by unfold Is at h ⊢; exact h
  | .ty b, v, _, h => by unfold Is at h ⊢; exact h
  | .glb b, v, _, h => by unfold Is at h ⊢; exact h
  | .ref m, v, l, h => by
    unfold Is at h ⊢
    unfold D.mr at l
    obtain ⟨a, e, r⟩ := h
    exact ⟨a, p m l a e, r⟩
  | .tup ds, v, l, h => by
    unfold Is at h ⊢
    unfold D.mr at l
    obtain ⟨a, xs, e, s, r⟩ := h
    exact ⟨a, xs, e, SqT.keep k s, IsL.mono k n p ds xs l r⟩
  | .frl ds, v, l, h => by
    unfold Is at h ⊢
    unfold D.mr at l
    obtain ⟨a, xs, e, s, r⟩ := h
    exact ⟨a, xs, e, FrzL.keep k s, IsL.mono k n p ds xs l r⟩
theorem IsL.mono {K : KX} {ρ ρ' : List Addr} {H H' : Hp} (k : TupsKeep H H') (n : Nat) (p : ∀ i, i < n → ∀ a, ρ[i]? = some a → ρ'[i]? = some a) : ∀ (ds : List D) (xs : List V), mrL ds ≤ n → IsL K ρ H ds xs → IsL K ρ' H' ds xs
  | [], xs, _, h => by unfold IsL at h ⊢; exact h
  | d :: ds, xs, l, h => by
    unfold IsL at h ⊢
    unfold mrL at l
    obtain ⟨x, r, e, h1, h2⟩ := h
    exact ⟨x, r, e, Is.mono k n p d x (by omega) h1, IsL.mono k n p ds r (by omega) h2⟩
end
theorem IsF.mono {K : KX} {ρ ρ' : List Addr} {H H' : Hp} (k : TupsKeep H H') (n : Nat) (p : ∀ i, i < n → ∀ a, ρ[i]? = some a → ρ'[i]? = some a) : ∀ (ds : List (Str × D)) (xs : List (Str × V)), mrF ds ≤ n → IsF K ρ H ds xs → IsF K ρ' H' ds xs
  | [], xs, _, h => by unfold IsF at h ⊢; exact h
  | d :: ds, xs, l, h => by
    unfold IsF at h ⊢
    unfold mrF at l
    obtain ⟨x, r, e, h1, h2⟩ := h
    exact ⟨x, r, e, Is.mono k n p d.2 x (by omega) h1, IsF.mono k n p ds r (by omega) h2⟩

/-- a cell at an address -/
def CellIs (K : KX) (ρ : List Addr) (H : Hp) (a : Addr) : Cell → Prop
  | .lst ds => ∃ xs, H a = some (.lst xs) ∧ IsL K ρ H ds xs
  | .inst c fs => ∃ dx vs, H a = some (.ins (He.ga K c) dx vs) ∧ IsF K ρ H fs vs
  | .dict kvs => False

structure HRel (K : KX) (ρ : List Addr) (H : Hp) (cs : List Cell) : Prop where
  len : ρ.length = cs.length
  nd : ρ.Nodup
  at_ : ∀ (n : Nat) (c : Cell) (a : Addr), cs[n]? = some c → ρ[n]? = some a → CellIs K ρ H a c

abbrev Env := List (Option D)
structure EnvIs (K : KX) (ρ : List Addr) (H : Hp) (env : Env) (σ : L2.St) : Prop where
  len : env.length = σ.length
  at_ : ∀ (i : Nat) (d : D), env[i]? = some (some d) → ∃ v, σ[i]? = some (some v) ∧ Is K ρ H d v
  inv : K.J σ
def EnvWf (env : Env) (n : Nat) : Prop := ∀ (i : Nat) (d : D), env[i]? = some (some d) → d.mr ≤ n

/-- the state beyond (ρ, H): cells come beside; what is no cell stands as it stood -/
structure Ext (K : KX) (ρ : List Addr) (H : Hp) (h' : PH) (ρ' : List Addr) (H' : Hp) : Prop where
  pre : ∃ m, ρ' = ρ ++ m
  fresh : ∀ a ∈ ρ', a ∉ ρ → H a = none
  frame : ∀ a o, a ∉ ρ → H a = some o → H' a = some o
  kept : TupsKeep H H'
  rel : HRel K ρ' H' h'.cs
  wf : Wf h'

theorem TupsKeep.refl (H : Hp) : TupsKeep H H := ⟨fun _ _ h => h, fun _ _ _ h => h⟩
theorem TupsKeep.trans {H H1 H2 : Hp} (a : TupsKeep H H1) (b : TupsKeep H1 H2) : TupsKeep H H2 := ⟨fun x xs h => b.1 x xs (a.1 x xs h), fun x o u h => b.2 x o u (a.2 x o u h)⟩
theorem Ext.refl {K : KX} {ρ : List Addr} {H : Hp} {h : PH} (r : HRel K ρ H h.cs) (w : Wf h) : Ext K ρ H h ρ H :=
  ⟨⟨[], by simp⟩, fun a h1 h2 => absurd h1 h2, fun _ _ _ h => h, TupsKeep.refl H, r, w⟩
theorem Ext.trans {K : KX} {ρ ρ1 ρ2 : List Addr} {H H1 H2 : Hp} {h1 h2 : PH} (a : Ext K ρ H h1 ρ1 H1) (b : Ext K ρ1 H1 h2 ρ2 H2) : Ext K ρ H h2 ρ2 H2 := by
  obtain ⟨m1, e1⟩ := a.pre
  obtain ⟨m2, e2⟩ := b.pre
  refine ⟨⟨m1 ++ m2, by rw [e2, e1, List.append_assoc]⟩, fun x hx hn => ?_, fun x o hn hx => ?_, a.kept.trans b.kept, b.rel, b.wf⟩
  · by_cases h : x ∈ ρ1
    · exact a.fresh x h hn
    · have z := b.fresh x hx h
      cases q : H x with
      | none => rfl
      | some o => rw [a.frame x o hn q] at z; cases z
  · have z := a.frame x o hn hx
    refine b.frame x o (fun h => ?_) z
    have y := a.fresh x h hn
    rw [y] at hx; cases hx
theorem Ext.at_ {K : KX} {ρ ρ1 : List Addr} {H H1 : Hp} {h1 : PH} (a : Ext K ρ H h1 ρ1 H1) : ∀ i, i < ρ.length → ∀ x, ρ[i]? = some x → ρ1[i]? = some x := by
  obtain ⟨m, rfl⟩ := a.pre
  intro i hi x h
  rw [List.getElem?_append_left hi]; exact h
theorem Ext.le {K : KX} {ρ ρ1 : List Addr} {H H1 : Hp} {h1 : PH} (a : Ext K ρ H h1 ρ1 H1) : ρ.length ≤ h1.cs.length := by
  obtain ⟨m, e⟩ := a.pre
  rw [← a.rel.len, e, List.length_append]; omega
theorem Ext.is {K : KX} {ρ ρ1 : List Addr} {H H1 : Hp} {h1 : PH} (a : Ext K ρ H h1 ρ1 H1) {d : D} {v : V} (l : d.mr ≤ ρ.length) (h : Is K ρ H d v) : Is K ρ1 H1 d v := Is.mono a.kept _ a.at_ d v l h
theorem Ext.isL {K : KX} {ρ ρ1 : List Addr} {H H1 : Hp} {h1 : PH} (a : Ext K ρ H h1 ρ1 H1) {ds : List D} {xs : List V} (l : mrL ds ≤ ρ.length) (h : IsL K ρ H ds xs) : IsL K ρ1 H1 ds xs := IsL.mono a.kept _ a.at_ ds xs l h
theorem Ext.envIs {K : KX} {ρ ρ1 : List Addr} {H H1 : Hp} {h1 : PH} (a : Ext K ρ H h1 ρ1 H1) {env : Env} {σ : L2.St} (w : EnvWf env ρ.length) (h : EnvIs K ρ H env σ) : EnvIs K ρ1 H1 env σ :=
  ⟨h.len, fun i d e => let ⟨v, e1, e2⟩ := h.at_ i d e; ⟨v, e1, a.is (w i d e) e2⟩, h.inv⟩
theorem EnvWf.mono {env : Env} {n m : Nat} (w : EnvWf env n) (h : n ≤ m) : EnvWf env m := fun i d e => Nat.le_trans (w i d e) h

/-- the whole relation -/
structure Rel (K : KX) (ρ : List Addr) (env : Env) (h : PH) (σ : L2.St) (H : Hp) : Prop where
  eis : EnvIs K ρ H env σ
  heap : HRel K ρ H h.cs
  wf : Wf h
  ewf : EnvWf env h.cs.length
theorem Rel.len {K : KX} {ρ : List Addr} {env : Env} {h : PH} {σ : L2.St} {H : Hp} (r : Rel K ρ env h σ H) : ρ.length = h.cs.length := r.heap.len
theorem Rel.ext {K : KX} {ρ ρ1 : List Addr} {env : Env} {h h1 : PH} {σ : L2.St} {H H1 : Hp} (r : Rel K ρ env h σ H) (a : Ext K ρ H h1 ρ1 H1) : Rel K ρ1 env h1 σ H1 :=
  ⟨a.envIs (by rw [r.len]; exact r.ewf) r.eis, a.rel, a.wf, r.ewf.mono (by have := a.le; rw [r.len] at this; exact this)⟩
theorem Rel.refl {K : KX} {ρ : List Addr} {env : Env} {h : PH} {σ : L2.St} {H : Hp} (r : Rel K ρ env h σ H) : Ext K ρ H h ρ H := Ext.refl r.heap r.wf

/-! ### new cells, written cells, cells dropped -/
section
variable {K : KX} {ρ : List Addr} {H : Hp} {h : PH}
theorem CellIs.mono {ρ' : List Addr} {H' : Hp} {a : Addr} {c : Cell} (k : TupsKeep H H') (n : Nat) (p : ∀ i, i < n → ∀ a, ρ[i]? = some a → ρ'[i]? = some a) (l : c.mr ≤ n) (e : H' a = H a) (x : CellIs K ρ H a c) : CellIs K ρ' H' a c := by
  cases c with
  | lst ds =>
    obtain ⟨xs, e1, e2⟩ := x
    exact ⟨xs, e.trans e1, IsL.mono k n p ds xs l e2⟩
  | inst c fs =>
    obtain ⟨dx, vs, e1, e2⟩ := x
    exact ⟨dx, vs, e.trans e1, IsF.mono k n p fs vs l e2⟩
  | dict kvs => exact x

/-- what cells lie at: tracked, no tuple, nothing known -/
theorem CellIs.mut {a : Addr} {c : Cell} (x : CellIs K ρ H a c) : ∃ o, H a = some o ∧ (∀ xs, o ≠ .tup xs) ∧ ∀ ob u, o ≠ .frz ob u := by
  cases c with
  | lst ds => obtain ⟨ys, e, _⟩ := x; exact ⟨_, e, (fun _ z => by cases z), (fun _ _ z => by cases z)⟩
  | inst c fs => obtain ⟨dx, vs, e, _⟩ := x; exact ⟨_, e, (fun _ z => by cases z), (fun _ _ z => by cases z)⟩
  | dict kvs => exact x.elim
theorem HRel.mut (r : HRel K ρ H h.cs) {a : Addr} (m : a ∈ ρ) : ∃ o, H a = some o ∧ (∀ xs, o ≠ .tup xs) ∧ ∀ ob u, o ≠ .frz ob u := by
  obtain ⟨n, hn, e⟩ := List.getElem_of_mem m
  have hc : n < h.cs.length := by rw [← r.len]; exact hn
  exact (r.at_ n h.cs[n] a (List.getElem?_eq_getElem hc) (by rw [List.getElem?_eq_getElem hn, e])).mut
theorem HRel.fresh (r : HRel K ρ H h.cs) {p : Addr} (np : H p = none) : p ∉ ρ := fun m => by
  obtain ⟨o, e, _⟩ := r.mut m
  rw [np] at e; cases e
theorem keep_new {p : Addr} {o : HO} (np : H p = none) : TupsKeep H (upd H p o) :=
  ⟨fun a xs e => by rw [upd_ne (ne_of_none e np)]; exact e, fun a ob u e => by rw [upd_ne (ne_of_none e np)]; exact e⟩
theorem keep_old {p : Addr} {o u : HO} (hp : H p = some u) (nt : ∀ xs, u ≠ .tup xs) (nf : ∀ ob v, u ≠ .frz ob v) : TupsKeep H (upd H p o) :=
  ⟨fun a xs e => by rw [upd_ne (fun z => by subst z; rw [hp] at e; exact nt xs (Option.some.inj e))]; exact e,
   fun a ob v e => by rw [upd_ne (fun z => by subst z; rw [hp] at e; exact nf ob v (Option.some.inj e))]; exact e⟩

/-- a new object that is no cell -/
theorem Ext.obj (r : HRel K ρ H h.cs) (w : Wf h) {p : Addr} {o : HO} (np : H p = none) : Ext K ρ H h ρ (upd H p o) := by
  have nf := r.fresh (h := h) np
  refine ⟨⟨[], by simp⟩, fun a h1 h2 => absurd h1 h2, fun a u _ e => by rw [upd_ne (ne_of_none e np)]; exact e, keep_new np, ⟨r.len, r.nd, fun n c a e1 e2 => ?_⟩, w⟩
  have hm : a ∈ ρ := List.mem_of_getElem? e2
  have ha : a ≠ p := fun z => nf (z ▸ hm)
  exact CellIs.mono (ρ := ρ) (H := H) (keep_new np) (max n h.lim) (fun i _ x hx => hx) (w.at_ n c e1) (upd_ne ha) (r.at_ n c a e1 e2)

/-- the state with one more cell -/
def PH.push (h : PH) (c : Cell) : PH := ⟨h.cs ++ [c], h.lim⟩
theorem Wf.push (w : Wf h) {c : Cell} (l : c.mr ≤ h.cs.length) : Wf (h.push c) := by
  refine ⟨by have := w.le; show h.lim ≤ (h.cs ++ [c]).length; rw [List.length_append]; omega, fun n d e => ?_⟩
  have e : (h.cs ++ [c])[n]? = some d := e
  by_cases hn : n < h.cs.length
  · rw [List.getElem?_append_left hn] at e
    exact w.at_ n d e
  · rw [List.getElem?_append_right (by omega)] at e
    have hz : n - h.cs.length = 0 := by
      rcases Nat.eq_zero_or_pos (n - h.cs.length) with z | z
      · exact z
      · rw [List.getElem?_eq_none (by simp; omega)] at e; cases e
    rw [hz] at e
    have e' : c = d := by simpa using e
    subst e'
    show c.mr ≤ max n h.lim
    omega
/-- a new cell at a new address p -/
theorem Ext.push (r : HRel K ρ H h.cs) (w : Wf h) {p : Addr} {o : HO} {c : Cell} (np : H p = none) (l : c.mr ≤ h.cs.length)
    (ci : ∀ H', H' p = some o → TupsKeep H H' → CellIs K (ρ ++ [p]) H' p c) : Ext K ρ H (h.push c) (ρ ++ [p]) (upd H p o) := by
  have nf := r.fresh (h := h) np
  refine ⟨⟨[p], rfl⟩, fun a h1 h2 => ?_, fun a u _ e => by rw [upd_ne (ne_of_none e np)]; exact e, keep_new np, ⟨?_, ?_, fun n d a e1 e2 => ?_⟩, w.push l⟩
  · rcases List.mem_append.mp h1 with z | z
    · exact absurd z h2
    · have : a = p := by simpa using z
      rw [this]; exact np
  · show (ρ ++ [p]).length = (h.cs ++ [c]).length
    rw [List.length_append, List.length_append, r.len]; rfl
  · refine List.nodup_append.mpr ⟨r.nd, by simp, fun a ha b hb e => ?_⟩
    have : b = p := by simpa using hb
    subst this
    exact nf (e ▸ ha)
  · have e1 : (h.cs ++ [c])[n]? = some d := e1
    by_cases hn : n < h.cs.length
    · rw [List.getElem?_append_left hn] at e1
      rw [List.getElem?_append_left (by rw [r.len]; exact hn)] at e2
      have hm : a ∈ ρ := List.mem_of_getElem? e2
      have ha : a ≠ p := fun z => nf (z ▸ hm)
      refine CellIs.mono (ρ := ρ) (H := H) (keep_new np) (max n h.lim) (fun i _ x hx => ?_) (w.at_ n d e1) (upd_ne ha) (r.at_ n d a e1 e2)
      have : i < ρ.length := (List.getElem?_eq_some_iff.mp hx).1
      rw [List.getElem?_append_left this]; exact hx
    · rw [List.getElem?_append_right (by omega)] at e1
      have hz : n = h.cs.length := by
        rcases Nat.eq_zero_or_pos (n - h.cs.length) with z | z
        · omega
        · rw [List.getElem?_eq_none (by simp; omega)] at e1; cases e1
      subst hz
      rw [← r.len, List.getElem?_append_right (Nat.le_refl _), Nat.sub_self] at e2
      rw [Nat.sub_self] at e1
      have ea : p = a := by simpa using e2
      have ec : c = d := by simpa using e1
      subst ea; subst ec
      exact ci _ upd_same (keep_new np)

/-- the state with a cell written -/
def PH.put (h : PH) (n : Nat) (c : Cell) : PH := ⟨h.cs.set n c, if c.mr ≤ n then h.lim else max h.lim c.mr⟩
theorem Wf.put (w : Wf h) {n : Nat} {c : Cell} (l : c.mr ≤ h.cs.length) : Wf (h.put n c) := by
  refine ⟨?_, fun m d e => ?_⟩
  · show (if c.mr ≤ n then h.lim else max h.lim c.mr) ≤ (h.cs.set n c).length
    rw [List.length_set]
    have := w.le
    split <;> omega
  · have e : (h.cs.set n c)[m]? = some d := e
    show d.mr ≤ max m (if c.mr ≤ n then h.lim else max h.lim c.mr)
    by_cases hm : n = m
    · subst hm
      by_cases hn : n < h.cs.length
      · rw [List.getElem?_set_self hn] at e
        have : c = d := Option.some.inj e
        subst this
        split <;> omega
      · rw [List.getElem?_eq_none (by rw [List.length_set]; omega)] at e; cases e
    · rw [List.getElem?_set_ne hm] at e
      have := w.at_ m d e
      split <;> omega
theorem Ext.put (r : HRel K ρ H h.cs) (w : Wf h) {n : Nat} {p : Addr} {o : HO} {c : Cell} (hp : ρ[n]? = some p) (l : c.mr ≤ h.cs.length)
    (ci : ∀ H', H' p = some o → TupsKeep H H' → CellIs K ρ H' p c) : Ext K ρ H (h.put n c) ρ (upd H p o) := by
  have hm : p ∈ ρ := List.mem_of_getElem? hp
  obtain ⟨u, hu, nt, nf⟩ := r.mut hm
  have k : TupsKeep H (upd H p o) := keep_old hu nt nf
  refine ⟨⟨[], by simp⟩, fun a h1 h2 => absurd h1 h2, fun a v na e => by rw [upd_ne (fun z : a = p => na (by rw [z]; exact hm))]; exact e, k, ⟨?_, r.nd, fun m d a e1 e2 => ?_⟩, w.put l⟩
  · show ρ.length = (h.cs.set n c).length
    rw [List.length_set, r.len]
  · have e1 : (h.cs.set n c)[m]? = some d := e1
    have hn : n < h.cs.length := by rw [← r.len]; exact (List.getElem?_eq_some_iff.mp hp).1
    by_cases hmn : n = m
    · subst hmn
      rw [List.getElem?_set_self hn] at e1
      have ec : c = d := Option.some.inj e1
      rw [hp] at e2
      have ea : p = a := Option.some.inj e2
      subst ec; subst ea
      exact ci _ upd_same k
    · rw [List.getElem?_set_ne hmn] at e1
      have ha : a ≠ p := fun z => by
        subst z
        obtain ⟨h1, g1⟩ := List.getElem?_eq_some_iff.mp hp
        obtain ⟨h2, g2⟩ := List.getElem?_eq_some_iff.mp e2
        exact hmn ((List.getElem_inj r.nd).mp (g1.trans g2.symm))
      exact CellIs.mono (ρ := ρ) (H := H) k (max m h.lim) (fun i _ x hx => hx) (w.at_ m d e1) (upd_ne ha) (r.at_ m d a e1 e2)

/-- the state without its last cells -/
def PH.cut (h : PH) (n : Nat) : PH := ⟨h.cs.take n, h.lim⟩
theorem Ext.cut {ρ1 : List Addr} {H1 : Hp} {h1 : PH} (x : Ext K ρ H h1 ρ1 H1) {n : Nat} (l : ρ.length ≤ n) (hl : h1.lim ≤ n) : Ext K ρ H (h1.cut n) (ρ1.take n) H1 := by
  obtain ⟨m, e⟩ := x.pre
  refine ⟨⟨m.take (n - ρ.length), ?_⟩, fun a h1 h2 => x.fresh a (List.mem_of_mem_take h1) h2, x.frame, x.kept, ⟨?_, x.rel.nd.sublist (List.take_sublist _ _), fun i c a e1 e2 => ?_⟩, ⟨?_, fun i c e1 => ?_⟩⟩
  · rw [e, List.take_append, List.take_of_length_le l]
  · show (ρ1.take n).length = (h1.cs.take n).length
    rw [List.length_take, List.length_take, x.rel.len]
  · have e1 : (h1.cs.take n)[i]? = some c := e1
    have hi : i < n := by
      have := (List.getElem?_eq_some_iff.mp e1).1
      rw [List.length_take] at this; omega
    rw [List.getElem?_take_of_lt hi] at e1 e2
    refine CellIs.mono (TupsKeep.refl _) (max i h1.lim) (fun j hj b hb => ?_) (x.wf.at_ i c e1) rfl (x.rel.at_ i c a e1 e2)
    rw [List.getElem?_take_of_lt (by omega)]; exact hb
  · show h1.lim ≤ (h1.cs.take n).length
    have := x.wf.le
    rw [List.length_take]; omega
  · have e1 : (h1.cs.take n)[i]? = some c := e1
    have hi : i < n := by
      have := (List.getElem?_eq_some_iff.mp e1).1
      rw [List.length_take] at this; omega
    rw [List.getElem?_take_of_lt hi] at e1
    exact x.wf.at_ i c e1
theorem Is.cut {n : Nat} {d : D} {v : V} (l : d.mr ≤ n) (x : Is K ρ H d v) : Is K (ρ.take n) H d v :=
  Is.mono (TupsKeep.refl _) n (fun i hi a ha => by rw [List.getElem?_take_of_lt hi]; exact ha) d v l x
end
end Dy

/-! What code computes, without a heap of objects: the combinators. -/
namespace Dy
open PySem PySem.Spec PyProof.Rows L2

inductive Res (α : Type) where
  | ok (v : α) (h : PH) | exc (c : Str) (h : PH) | stuck
def Res.bind {α β : Type} (r : Res α) (f : α → PH → Res β) : Res β := match r with
  | .ok v h => f v h
  | .exc c h => .exc c h
  | .stuck => .stuck
abbrev EM := Env → PH → Res D
abbrev AM := Env → PH → Res (List D)
abbrev TM := Env → PH → Res Bool

inductive Out where
  | nxt (e : Env) (h : PH) | ret (d : D) (h : PH) | brk (e : Env) (h : PH) | cnt (e : Env) (h : PH) | exc (c : Str) (e : Env) (h : PH) | stuck
abbrev SM := Env → PH → Out

/-- what is wanted of an exception; what an except suite holds -/
structure WJ where
  w : WX
  hx : Option (Nat × Addr)
abbrev kx (X : Cx) (W : WJ) : KX := ⟨X.K, W.hx⟩
/-! ### what is wanted of a result, beyond (ρ, H) -/
def RD (K : KX) : List Addr → Hp → Nat → D → V → Prop := fun ρ H n d v => Is K ρ H d v ∧ d.mr ≤ n
def RL (K : KX) : List Addr → Hp → Nat → List D → List V → Prop := fun ρ H n ds vs => IsL K ρ H ds vs ∧ mrL ds ≤ n
def RB : List Addr → Hp → Nat → Bool → Bool → Prop := fun _ _ _ a b => a = b
section
variable (K : KX) (W : WJ)
def PostG {α β : Type} (R : List Addr → Hp → Nat → α → β → Prop) (σ : L2.St) (Q : β → Hp → Prop) (ρ : List Addr) (H : Hp) : Res α → Prop
  | .ok a h' => ∀ ρ' b H', Ext K ρ H h' ρ' H' → R ρ' H' h'.cs.length a b → Q b H'
  | .exc c h' => ∀ ρ' H', Ext K ρ H h' ρ' H' → W.w (.ref (He.ga K c)) none σ H'
  | .stuck => False
def tG {α β : Type} (R : List Addr → Hp → Nat → α → β → Prop) (m : Env → PH → Res α) : L2.St → Hp → (β → Hp → Prop) → Prop := fun σ H Q =>
  ∃ ρ env h, Rel K ρ env h σ H ∧ PostG K W R σ Q ρ H (m env h)
abbrev tE (m : EM) : TE := tG K W (RD K) m
abbrev tA (m : AM) : TA := tG K W (RL K) m
abbrev tT (m : TM) : TT := tG K W RB m

def PostS (D : Ends) (ρ : List Addr) (H : Hp) : Out → Prop
  | .nxt e h => ∀ ρ' σ' H', Ext K ρ H h ρ' H' → EnvIs K ρ' H' e σ' → EnvWf e h.cs.length → D.nx σ' H'
  | .brk e h => ∀ ρ' σ' H', Ext K ρ H h ρ' H' → EnvIs K ρ' H' e σ' → EnvWf e h.cs.length → D.bk σ' H'
  | .cnt e h => ∀ ρ' σ' H', Ext K ρ H h ρ' H' → EnvIs K ρ' H' e σ' → EnvWf e h.cs.length → D.ct σ' H'
  | .ret d h => ∀ ρ' v H', Ext K ρ H h ρ' H' → RD K ρ' H' h.cs.length d v → D.rt v H'
  | .exc c e h => ∀ ρ' σ' H', Ext K ρ H h ρ' H' → EnvIs K ρ' H' e σ' → EnvWf e h.cs.length → W.w (.ref (He.ga K c)) none σ' H'
  | .stuck => False
def tS (m : SM) : TS := fun D σ H => ∃ ρ env h, Rel K ρ env h σ H ∧ PostS K W D ρ H (m env h)
end
section
variable {K : KX} {W : WJ} {α β γ δ : Type} {R : List Addr → Hp → Nat → α → β → Prop} {R' : List Addr → Hp → Nat → γ → δ → Prop} {σ : L2.St} {ρ ρ1 : List Addr} {H H1 : Hp} {h h1 : PH} {env : Env}
theorem PostG.shift {Q : β → Hp → Prop} {r : Res α} (x : Ext K ρ H h1 ρ1 H1) (p : PostG K W R σ Q ρ H r) : PostG K W R σ Q ρ1 H1 r := by
  cases r with
  | ok a h2 => exact fun ρ2 b H2 y rb => p ρ2 b H2 (x.trans y) rb
  | exc c h2 => exact fun ρ2 H2 y => p ρ2 H2 (x.trans y)
  | stuck => exact p
theorem PostS.shift {D : Ends} {r : Out} (x : Ext K ρ H h1 ρ1 H1) (p : PostS K W D ρ H r) : PostS K W D ρ1 H1 r := by
  cases r with
  | nxt e h2 => exact fun ρ2 b H2 y z w => p ρ2 b H2 (x.trans y) z w
  | brk e h2 => exact fun ρ2 b H2 y z w => p ρ2 b H2 (x.trans y) z w
  | cnt e h2 => exact fun ρ2 b H2 y z w => p ρ2 b H2 (x.trans y) z w
  | ret d h2 => exact fun ρ2 b H2 y rb => p ρ2 b H2 (x.trans y) rb
  | exc c e h2 => exact fun ρ2 b H2 y z w => p ρ2 b H2 (x.trans y) z w
  | stuck => exact p
/-- the first of two steps -/
theorem PostG.bind {m : Env → PH → Res α} {k : α → PH → Res γ} {Q : δ → Hp → Prop} (r : Rel K ρ env h σ H) (p : PostG K W R' σ Q ρ H ((m env h).bind k)) :
    tG K W R m σ H fun b H1 => ∃ ρ1 h1 a, Ext K ρ H h1 ρ1 H1 ∧ R ρ1 H1 h1.cs.length a b ∧ PostG K W R' σ Q ρ1 H1 (k a h1) := by
  refine ⟨ρ, env, h, r, ?_⟩
  cases e : m env h with
  | ok a h1 =>
    rw [e] at p
    exact fun ρ' b H' x rb => ⟨ρ', h1, a, x, rb, p.shift x⟩
  | exc c h1 =>
    rw [e] at p
    exact p
  | stuck =>
    rw [e] at p
    exact p
end
/-- the first of a statement's steps -/
def Res.bindS {α : Type} (r : Res α) (e : Env) (f : α → PH → Out) : Out := match r with
  | .ok v h => f v h
  | .exc c h => .exc c e h
  | .stuck => .stuck
section
variable {K : KX} {W : WJ} {α β : Type} {R : List Addr → Hp → Nat → α → β → Prop} {σ : L2.St} {ρ : List Addr} {H : Hp} {h : PH} {env : Env}
theorem PostS.bind {m : Env → PH → Res α} {k : α → PH → Out} {D : Ends} (r : Rel K ρ env h σ H) (p : PostS K W D ρ H ((m env h).bindS env k)) :
    tG K W R m σ H fun b H1 => ∃ ρ1 h1 a, Ext K ρ H h1 ρ1 H1 ∧ R ρ1 H1 h1.cs.length a b ∧ PostS K W D ρ1 H1 (k a h1) := by
  refine ⟨ρ, env, h, r, ?_⟩
  cases e : m env h with
  | ok a h1 =>
    rw [e] at p
    exact fun ρ' b H' x rb => ⟨ρ', h1, a, x, rb, p.shift x⟩
  | exc c h1 =>
    rw [e] at p
    exact fun ρ' H' x => p ρ' σ H' x (x.envIs (by rw [r.len]; exact r.ewf) r.eis) (r.ewf.mono (by have := x.le; rw [r.len] at this; exact this))
  | stuck =>
    rw [e] at p
    exact p
end

/-! ### judgements -/
abbrev DE (X : Cx) (W : WJ) (e : Expr) (m : EM) : Prop := PE X e (tE (kx X W) W m)
abbrev DA (X : Cx) (W : WJ) (es : List Expr) (m : AM) : Prop := PA X es (tA (kx X W) W m)
abbrev DT (X : Cx) (W : WJ) (e : Expr) (m : TM) : Prop := PT X e (tT (kx X W) W m)
abbrev DS (X : Cx) (W : WJ) (st : Stmt) (m : SM) : Prop := PS X st (tS (kx X W) W m)
abbrev DSs (X : Cx) (W : WJ) (st : List Stmt) (m : SM) : Prop := PSs X st (tS (kx X W) W m)
section
variable {X : Cx} {W : WJ}
theorem pe_imp {e : Expr} {t t' : TE} (h : PE X e t) (k : ∀ σ H Q, t' σ H Q → t σ H Q) : PE X e t' := ⟨fun pins s σ H Q I q => h.run pins s σ H Q I (k σ H Q q)⟩
theorem pt_imp {e : Expr} {t t' : TT} (h : PT X e t) (k : ∀ σ H Q, t' σ H Q → t σ H Q) : PT X e t' := ⟨fun pins s σ H Q I q => h.run pins s σ H Q I (k σ H Q q)⟩
theorem pw_imp {e : Expr} {t t' : TT} (h : PW X e t) (k : ∀ σ H Q, t' σ H Q → t σ H Q) : PW X e t' := ⟨fun wh pins s σ H Q I q => h.run wh pins s σ H Q I (k σ H Q q)⟩
theorem pa_imp {e : List Expr} {t t' : TA} (h : PA X e t) (k : ∀ σ H Q, t' σ H Q → t σ H Q) : PA X e t' := ⟨fun pos pins s σ H Q I q => h.run pos pins s σ H Q I (k σ H Q q)⟩
theorem ps_imp {e : Stmt} {t t' : TS} (h : PS X e t) (k : ∀ D σ H, t' D σ H → t D σ H) : PS X e t' := ⟨fun pins s σ H D I q => h.run pins s σ H D I (k D σ H q)⟩
theorem pss_imp {e : List Stmt} {t t' : TS} (h : PSs X e t) (k : ∀ D σ H, t' D σ H → t D σ H) : PSs X e t' := ⟨fun pins s σ H D I q => h.run pins s σ H D I (k D σ H q)⟩
theorem pe_or' {e : Expr} {t t' : TE} (h : PE X e t) (h' : PE X e t') : PE X e (fun σ H Q => t σ H Q ∨ t' σ H Q) := ⟨fun pins s σ H Q I q => q.elim (h.run pins s σ H Q I) (h'.run pins s σ H Q I)⟩
def stuckE : EM := fun _ _ => .stuck
def stuckA : AM := fun _ _ => .stuck
def stuckT : TM := fun _ _ => .stuck
def stuckS : SM := fun _ _ => .stuck
theorem de_stuck {e : Expr} : DE X W e stuckE := ⟨fun _ _ _ _ _ _ ⟨_, _, _, _, p⟩ => False.elim p⟩
theorem da_stuck {e : List Expr} : DA X W e stuckA := ⟨fun _ _ _ _ _ _ _ ⟨_, _, _, _, p⟩ => False.elim p⟩
theorem dt_stuck {e : Expr} : DT X W e stuckT := ⟨fun _ _ _ _ _ _ ⟨_, _, _, _, p⟩ => False.elim p⟩
theorem ds_stuck {e : Stmt} : DS X W e stuckS := ⟨fun _ _ _ _ _ _ ⟨_, _, _, _, p⟩ => False.elim p⟩
theorem dss_stuck {e : List Stmt} : DSs X W e stuckS := ⟨fun _ _ _ _ _ _ ⟨_, _, _, _, p⟩ => False.elim p⟩

/-! ### constants, names -/
def cE (d : D) : EM := fun _ h => .ok d h
def vE (i : Nat) : EM := fun e h => match e[i]? with
  | some (some d) => .ok d h
  | _ => .stuck
theorem de_const {e : Expr} {d : D} {v : V} (h : PE X e (tC v)) (q : ∀ ρ H, Is (kx X W) ρ H d v) (z : d.mr = 0) : DE X W e (cE d) :=
  pe_imp h fun σ H Q ⟨ρ, env, h, r, p⟩ => p ρ v H r.refl ⟨q ρ H, by rw [z]; exact Nat.zero_le _⟩
theorem de_var {e : Expr} {i : Nat} (h : PE X e (tVar i)) : DE X W e (vE i) := pe_imp h fun σ H Q ⟨ρ, env, h, r, p⟩ => by
  unfold vE at p
  cases e : env[i]? with
  | none => rw [e] at p; exact False.elim p
  | some o =>
    rw [e] at p
    cases o with
    | none => exact False.elim p
    | some d =>
      obtain ⟨v, e1, e2⟩ := r.eis.at_ i d e
      exact ⟨v, e1, p ρ v H r.refl ⟨e2, r.ewf i d e⟩⟩

/-! ### operations upon values -/
def u1E (f : D → PH → Res D) (a : EM) : EM := fun e h => (a e h).bind f
def b2E (f : D → D → PH → Res D) (a b : EM) : EM := fun e h => (a e h).bind fun x h1 => (b e h1).bind fun y h2 => f x y h2
/-- the state at an operation -/
structure At (K : KX) (ρ : List Addr) (h : PH) (H : Hp) : Prop where
  heap : HRel K ρ H h.cs
  wf : Wf h
theorem Ext.at {K : KX} {ρ ρ1 : List Addr} {H H1 : Hp} {h1 : PH} (x : Ext K ρ H h1 ρ1 H1) : At K ρ1 h1 H1 := ⟨x.rel, x.wf⟩
theorem At.refl {K : KX} {ρ : List Addr} {H : Hp} {h : PH} (x : At K ρ h H) : Ext K ρ H h ρ H := Ext.refl x.heap x.wf
theorem RD.ext {K : KX} {ρ ρ1 : List Addr} {H H1 : Hp} {h h1 : PH} (x : Ext K ρ H h1 ρ1 H1) (hl : ρ.length = h.cs.length) {d : D} {v : V} (r : RD K ρ H h.cs.length d v) : RD K ρ1 H1 h1.cs.length d v :=
  ⟨x.is (by rw [hl]; exact r.2) r.1, Nat.le_trans r.2 (by rw [← hl]; exact x.le)⟩
theorem RL.ext {K : KX} {ρ ρ1 : List Addr} {H H1 : Hp} {h h1 : PH} (x : Ext K ρ H h1 ρ1 H1) (hl : ρ.length = h.cs.length) {d : List D} {v : List V} (r : RL K ρ H h.cs.length d v) : RL K ρ1 H1 h1.cs.length d v :=
  ⟨x.isL (by rw [hl]; exact r.2) r.1, Nat.le_trans r.2 (by rw [← hl]; exact x.le)⟩
/-- f upon values does what r asks -/
def Op1 (K : KX) (W : WJ) (f : D → PH → Res D) (r : V → Hp → VK → Prop) : Prop :=
  ∀ (σ : L2.St) (ρ : List Addr) (h : PH) (H : Hp) (d : D) (x : V) (Q : VK), At K ρ h H → RD K ρ H h.cs.length d x → PostG K W (RD K) σ Q ρ H (f d h) → r x H Q
def Op2 (K : KX) (W : WJ) (f : D → D → PH → Res D) (r : R2) : Prop :=
  ∀ (σ : L2.St) (ρ : List Addr) (h : PH) (H : Hp) (d e : D) (x y : V) (Q : VK), At K ρ h H → RD K ρ H h.cs.length d x → RD K ρ H h.cs.length e y → PostG K W (RD K) σ Q ρ H (f d e h) → r x y H Q
def OpN (K : KX) (W : WJ) (f : List D → PH → Res D) (r : List V → Hp → VK → Prop) : Prop :=
  ∀ (σ : L2.St) (ρ : List Addr) (h : PH) (H : Hp) (ds : List D) (xs : List V) (Q : VK), At K ρ h H → RL K ρ H h.cs.length ds xs → PostG K W (RD K) σ Q ρ H (f ds h) → r xs H Q
def OpM (K : KX) (W : WJ) (f : D → List D → PH → Res D) (r : V → List V → Hp → VK → Prop) : Prop :=
  ∀ (σ : L2.St) (ρ : List Addr) (h : PH) (H : Hp) (d : D) (x : V) (ds : List D) (xs : List V) (Q : VK), At K ρ h H → RD K ρ H h.cs.length d x → RL K ρ H h.cs.length ds xs → PostG K W (RD K) σ Q ρ H (f d ds h) → r x xs H Q

theorem tG_mono {K : KX} {α β : Type} {R : List Addr → Hp → Nat → α → β → Prop} {m : Env → PH → Res α} {σ : L2.St} {H : Hp} {Q Q' : β → Hp → Prop} (t : tG K W R m σ H Q) (k : ∀ b H1, Q b H1 → Q' b H1) : tG K W R m σ H Q' := by
  obtain ⟨ρ, env, h, r, p⟩ := t
  refine ⟨ρ, env, h, r, ?_⟩
  cases e : m env h with
  | stuck => rw [e] at p; exact p
  | exc c h1 => rw [e] at p; exact p
  | ok a h1 => rw [e] at p; exact fun ρ1 b H1 x1 rb => k b H1 (p ρ1 b H1 x1 rb)
theorem t_b2 {f : D → D → PH → Res D} {r : R2} {K : KX} (hf : Op2 K W f r) {ma mb : EM} {σ : L2.St} {H : Hp} {Q : VK} (t : tE K W (b2E f ma mb) σ H Q) : tOp r (tE K W ma) (tE K W mb) σ H Q := by
  obtain ⟨ρ, env, h, rl, p⟩ := t
  refine tG_mono (PostG.bind (R := RD K) rl p) fun b H1 ⟨ρ1, h1, a1, x1, ra1, p1⟩ => ?_
  refine tG_mono (PostG.bind (R := RD K) (rl.ext x1) p1) fun b2 H2 ⟨ρ2, h2, a2, x2, ra2, p2⟩ => ?_
  exact hf σ ρ2 h2 H2 a1 a2 b b2 Q x2.at (ra1.ext x2 (rl.ext x1).len) ra2 p2
theorem t_u1 {f : D → PH → Res D} {r : V → Hp → VK → Prop} {K : KX} (hf : Op1 K W f r) {ma : EM} {σ : L2.St} {H : Hp} {Q : VK} (t : tE K W (u1E f ma) σ H Q) : tE K W ma σ H fun x H1 => r x H1 Q := by
  obtain ⟨ρ, env, h, rl, p⟩ := t
  exact tG_mono (PostG.bind (R := RD K) rl p) fun b H1 ⟨ρ1, h1, a1, x1, ra1, p1⟩ => hf σ ρ1 h1 H1 a1 b Q x1.at ra1 p1
def nA (f : List D → PH → Res D) (a : AM) : EM := fun e h => (a e h).bind f
theorem t_nA {f : List D → PH → Res D} {r : List V → Hp → VK → Prop} {K : KX} (hf : OpN K W f r) {ma : AM} {σ : L2.St} {H : Hp} {Q : VK} (t : tE K W (nA f ma) σ H Q) : tA K W ma σ H fun xs H1 => r xs H1 Q := by
  obtain ⟨ρ, env, h, rl, p⟩ := t
  exact tG_mono (PostG.bind (R := RL K) rl p) fun b H1 ⟨ρ1, h1, a1, x1, ra1, p1⟩ => hf σ ρ1 h1 H1 a1 b Q x1.at ra1 p1
/-- a receiver, then arguments -/
def mA (f : D → List D → PH → Res D) (o : EM) (a : AM) : EM := fun e h => (o e h).bind fun x h1 => (a e h1).bind fun xs h2 => f x xs h2
theorem t_mA {f : D → List D → PH → Res D} {r : V → List V → Hp → VK → Prop} {K : KX} (hf : OpM K W f r) {mo : EM} {ma : AM} {σ : L2.St} {H : Hp} {Q : VK} (t : tE K W (mA f mo ma) σ H Q) :
    tE K W mo σ H fun x H1 => tA K W ma σ H1 fun xs H2 => r x xs H2 Q := by
  obtain ⟨ρ, env, h, rl, p⟩ := t
  refine tG_mono (PostG.bind (R := RD K) rl p) fun b H1 ⟨ρ1, h1, a1, x1, ra1, p1⟩ => ?_
  refine tG_mono (PostG.bind (R := RL K) (rl.ext x1) p1) fun b2 H2 ⟨ρ2, h2, a2, x2, ra2, p2⟩ => ?_
  exact hf σ ρ2 h2 H2 a1 b a2 b2 Q x2.at (ra1.ext x2 (rl.ext x1).len) ra2 p2

/-! ### argument lists, displays -/
def nilA : AM := fun _ h => .ok [] h
def consA (a : EM) (r : AM) : AM := fun e h => (a e h).bind fun x h1 => (r e h1).bind fun xs h2 => .ok (x :: xs) h2
def isStar : Expr → Bool
  | .Starred _ _ => true
  | _ => false
theorem star_no {e : Expr} (h : isStar e = false) (es : List Expr) (env : PySem.Env) : starEach (e :: es) env = (false, eval e env) :: starEach es env := by
  cases e <;> first | rfl | cases h
theorem da_nil : DA X W [] nilA := pa_imp pa_nil fun σ H Q ⟨ρ, env, h, r, p⟩ => p ρ [] H r.refl ⟨by unfold IsL; rfl, Nat.zero_le _⟩
theorem da_cons {e : Expr} {es : List Expr} {ma : EM} {mr : AM} (ns : isStar e = false) (ha : DE X W e ma) (hr : DA X W es mr) : DA X W (e :: es) (consA ma mr) :=
  pa_imp (pa_cons ha hr (star_no ns es _)) fun σ H Q ⟨ρ, env, h, rl, p⟩ => by
    refine tG_mono (PostG.bind (R := RD (kx X W)) rl p) fun b H1 ⟨ρ1, h1, a1, x1, ra1, p1⟩ => ?_
    refine tG_mono (PostG.bind (R := RL (kx X W)) (rl.ext x1) p1) fun b2 H2 ⟨ρ2, h2, a2, x2, ra2, p2⟩ => ?_
    have ra := ra1.ext x2 (rl.ext x1).len
    refine p2 ρ2 (b :: b2) H2 x2.at.refl ⟨?_, ?_⟩
    · unfold IsL; exact ⟨b, b2, rfl, ra.1, ra2.1⟩
    · unfold mrL; have := ra.2; have := ra2.2; omega
def tupF (ds : List D) (h : PH) : Res D := if ds.length ≤ 16777216 then .ok (.tup ds) h else .stuck
def lstF (ds : List D) (h : PH) : Res D := if ds.length ≤ 16777216 then .ok (.ref h.cs.length) (h.push (.lst ds)) else .stuck
theorem opn_tup : OpN (kx X W) W tupF (fun xs H Q => xs.length ≤ sizeLine ∧ ∀ p, H p = none → Q (.ref p) (upd H p (.tup xs))) := by
  intro σ ρ h H ds xs Q at_ rl p
  unfold tupF at p
  split at p
  · rename_i hl
    refine ⟨by rw [rl.1.length, sizeLine_eq]; exact hl, fun q hq => ?_⟩
    have x := Ext.obj (o := .tup xs) at_.heap at_.wf hq
    refine p ρ (.ref q) _ x ⟨?_, ?_⟩
    · unfold Is
      exact ⟨q, xs, rfl, SqT.of upd_same, x.isL (by rw [at_.heap.len]; exact rl.2) rl.1⟩
    · unfold D.mr; exact rl.2
  · exact p.elim
theorem opn_lst : OpN (kx X W) W lstF (fun xs H Q => xs.length ≤ sizeLine ∧ ∀ p, H p = none → Q (.ref p) (upd H p (.lst xs))) := by
  intro σ ρ h H ds xs Q at_ rl p
  unfold lstF at p
  split at p
  · rename_i hl
    refine ⟨by rw [rl.1.length, sizeLine_eq]; exact hl, fun q hq => ?_⟩
    have x : Ext (kx X W) ρ H (h.push (.lst ds)) (ρ ++ [q]) (upd H q (.lst xs)) := Ext.push at_.heap at_.wf hq rl.2 fun H' e k =>
      ⟨xs, e, IsL.mono k ρ.length (fun i hi a ha => by rw [List.getElem?_append_left hi]; exact ha) ds xs (by rw [at_.heap.len]; exact rl.2) rl.1⟩
    refine p (ρ ++ [q]) (.ref q) _ x ⟨?_, ?_⟩
    · unfold Is
      exact ⟨q, by rw [← at_.heap.len, List.getElem?_append_right (Nat.le_refl _), Nat.sub_self]; rfl, rfl⟩
    · unfold D.mr
      show _ ≤ (h.cs ++ [Cell.lst ds]).length
      rw [List.length_append]; exact Nat.le_refl _
  · exact p.elim
theorem de_tup {es : List Expr} {k : Nat} {pos : Pos} {ma : AM} (ha : DA X W es ma) : DE X W (.Tuple es k pos) (nA tupF ma) := pe_imp (pe_tup ha) fun σ H Q t => t_nA opn_tup t
theorem de_lst {es : List Expr} {pos : Pos} {ma : AM} (ha : DA X W es ma) : DE X W (.List es pos) (nA lstF ma) := pe_imp (pe_lst ha) fun σ H Q t => t_nA opn_lst t

/-! ### operators -/
theorem de_bin {a b : Expr} {op : Operator} {pos : Pos} {ma mb : EM} {f : D → D → PH → Res D} {r : R2} (ho : OpR X (binaryOp op) r) (hf : Op2 (kx X W) W f r) (ha : DE X W a ma) (hb : DE X W b mb) : DE X W (.BinOp a op b pos) (b2E f ma mb) :=
  pe_imp (pe_op ho ha hb) fun σ H Q t => t_b2 hf t
theorem de_un {a : Expr} {op : UnaryOp} {pos : Pos} {ma : EM} {f : D → PH → Res D} {r : V → Hp → VK → Prop} (ho : UnR X (unaryOp op) r) (hf : Op1 (kx X W) W f r) (ha : DE X W a ma) : DE X W (.UnaryOp op a pos) (u1E f ma) :=
  pe_imp (pe_un ho ha) fun σ H Q t => t_u1 hf t
theorem de_cmp {a b : Expr} {op : CmpOp} {pos : Pos} {ma mb : EM} {f : D → D → PH → Res D} {r : R2} (ho : OpR X (compareOp op) r) (hf : Op2 (kx X W) W f r) (ha : DE X W a ma) (hb : DE X W b mb) (hm : behindInMarks op b = false) : DE X W (.Compare a [op] [b] pos) (b2E f ma mb) :=
  pe_imp (pe_cmpR ho ha hb hm) fun σ H Q t => t_b2 hf t
end
end Dy

/-! Operators, comparisons, tests. -/
namespace Dy
open PySem PySem.Spec PyProof.Rows L2
section
variable {K : KX} {W : WJ}
/-! ### how values look -/
theorem Is.int {ρ : List Addr} {H : Hp} {i : Int} {v : V} (h : Is K ρ H (.int i) v) : v = .int i := by unfold Is at h; exact h
theorem Is.str {ρ : List Addr} {H : Hp} {i : Str} {v : V} (h : Is K ρ H (.str i) v) : v = .str i := by unfold Is at h; exact h
theorem Is.bl {ρ : List Addr} {H : Hp} {i : Bool} {v : V} (h : Is K ρ H (.bl i) v) : v = .bl i := by unfold Is at h; exact h
theorem Is.non {ρ : List Addr} {H : Hp} {v : V} (h : Is K ρ H .non v) : v = .non := by unfold Is at h; exact h
theorem Is.tup {ρ : List Addr} {H : Hp} {ds : List D} {v : V} (h : Is K ρ H (.tup ds) v) : ∃ a xs, v = .ref a ∧ SqT K H a xs ∧ IsL K ρ H ds xs := by unfold Is at h; exact h
theorem Is.frl {ρ : List Addr} {H : Hp} {ds : List D} {v : V} (h : Is K ρ H (.frl ds) v) : ∃ a xs, v = .ref a ∧ FrzL K H a xs ∧ IsL K ρ H ds xs := by unfold Is at h; exact h
theorem Is.ref {ρ : List Addr} {H : Hp} {n : Nat} {v : V} (h : Is K ρ H (.ref n) v) : ∃ a, ρ[n]? = some a ∧ v = .ref a := by unfold Is at h; exact h
theorem is_int {ρ : List Addr} {H : Hp} {i : Int} {n : Nat} : RD K ρ H n (.int i) (.int i) := ⟨by unfold Is; rfl, Nat.zero_le _⟩
theorem is_str {ρ : List Addr} {H : Hp} {i : Str} {n : Nat} : RD K ρ H n (.str i) (.str i) := ⟨by unfold Is; rfl, Nat.zero_le _⟩
theorem is_bl {ρ : List Addr} {H : Hp} {i : Bool} {n : Nat} : RD K ρ H n (.bl i) (.bl i) := ⟨by unfold Is; rfl, Nat.zero_le _⟩
theorem is_non {ρ : List Addr} {H : Hp} {n : Nat} : RD K ρ H n .non .non := ⟨by unfold Is; rfl, Nat.zero_le _⟩
/-- a list's cell -/
theorem At.lst {ρ : List Addr} {h : PH} {H : Hp} (x : At K ρ h H) {n : Nat} {ds : List D} (e : h.cs[n]? = some (.lst ds)) {v : V} (i : Is K ρ H (.ref n) v) :
    ∃ a xs, v = .ref a ∧ ρ[n]? = some a ∧ H a = some (.lst xs) ∧ IsL K ρ H ds xs ∧ mrL ds ≤ h.cs.length := by
  obtain ⟨a, ha, rfl⟩ := i.ref
  obtain ⟨xs, h1, h2⟩ := x.heap.at_ n _ a e ha
  have l : mrL ds ≤ max n h.lim := x.wf.at_ n _ e
  have : n < h.cs.length := (List.getElem?_eq_some_iff.mp e).1
  have := x.wf.le
  exact ⟨a, xs, rfl, ha, h1, h2, by omega⟩
theorem IsL.get {ρ : List Addr} {H : Hp} : ∀ {ds : List D} {xs : List V} {i : Nat} {d : D}, IsL K ρ H ds xs → ds[i]? = some d → ∃ v, xs[i]? = some v ∧ Is K ρ H d v
  | [], _, i, d, _, e => by simp at e
  | c :: ds, xs, 0, d, h, e => by
    unfold IsL at h
    obtain ⟨x, r, rfl, h1, _⟩ := h
    simp at e; subst e
    exact ⟨x, rfl, h1⟩
  | c :: ds, xs, i + 1, d, h, e => by
    unfold IsL at h
    obtain ⟨x, r, rfl, _, h2⟩ := h
    obtain ⟨v, e1, e2⟩ := IsL.get (i := i) (d := d) h2 (by simpa using e)
    exact ⟨v, by simpa using e1, e2⟩
theorem mrL_get : ∀ {ds : List D} {i : Nat} {d : D}, ds[i]? = some d → d.mr ≤ mrL ds
  | [], i, d, e => by simp at e
  | c :: ds, 0, d, e => by
    simp at e; subst e
    unfold mrL; omega
  | c :: ds, i + 1, d, e => by
    have := mrL_get (ds := ds) (i := i) (d := d) (by simpa using e)
    unfold mrL; omega
theorem IsL.append {ρ : List Addr} {H : Hp} : ∀ {ds es : List D} {xs ys : List V}, IsL K ρ H ds xs → IsL K ρ H es ys → IsL K ρ H (ds ++ es) (xs ++ ys)
  | [], _, _, _, h, h' => by unfold IsL at h; subst h; exact h'
  | d :: ds, es, xs, ys, h, h' => by
    unfold IsL at h
    obtain ⟨x, r, rfl, h1, h2⟩ := h
    show IsL K ρ H (d :: (ds ++ es)) (x :: (r ++ ys))
    unfold IsL
    exact ⟨x, r ++ ys, rfl, h1, IsL.append h2 h'⟩
theorem mrL_append : ∀ {ds es : List D}, mrL (ds ++ es) = max (mrL ds) (mrL es)
  | [], es => by show mrL es = max 0 (mrL es); omega
  | d :: ds, es => by
    show max d.mr (mrL (ds ++ es)) = max (max d.mr (mrL ds)) (mrL es)
    rw [mrL_append]; omega
theorem IsL.take {ρ : List Addr} {H : Hp} : ∀ {ds : List D} {xs : List V} (n : Nat), IsL K ρ H ds xs → IsL K ρ H (ds.take n) (xs.take n)
  | _, _, 0, _ => by show IsL K ρ H [] []; unfold IsL; rfl
  | [], xs, n + 1, h => by unfold IsL at h; subst h; show IsL K ρ H [] []; unfold IsL; rfl
  | d :: ds, xs, n + 1, h => by
    unfold IsL at h
    obtain ⟨x, r, rfl, h1, h2⟩ := h
    show IsL K ρ H (d :: ds.take n) (x :: r.take n)
    unfold IsL
    exact ⟨x, _, rfl, h1, IsL.take n h2⟩
theorem IsL.drop {ρ : List Addr} {H : Hp} : ∀ {ds : List D} {xs : List V} (n : Nat), IsL K ρ H ds xs → IsL K ρ H (ds.drop n) (xs.drop n)
  | _, _, 0, h => h
  | [], xs, n + 1, h => by unfold IsL at h; subst h; show IsL K ρ H [] []; unfold IsL; rfl
  | d :: ds, xs, n + 1, h => by
    unfold IsL at h
    obtain ⟨x, r, rfl, h1, h2⟩ := h
    exact IsL.drop (ds := ds) (xs := r) n h2
theorem mrL_take : ∀ {ds : List D} {n : Nat}, mrL (ds.take n) ≤ mrL ds
  | _, 0 => Nat.zero_le _
  | [], _ + 1 => Nat.zero_le _
  | d :: ds, n + 1 => by
    show max d.mr (mrL (ds.take n)) ≤ max d.mr (mrL ds)
    have := mrL_take (ds := ds) (n := n); omega
theorem mrL_drop : ∀ {ds : List D} {n : Nat}, mrL (ds.drop n) ≤ mrL ds
  | _, 0 => Nat.le_refl _
  | [], _ + 1 => Nat.zero_le _
  | d :: ds, n + 1 => by
    show mrL (ds.drop n) ≤ max d.mr (mrL ds)
    have := mrL_drop (ds := ds) (n := n); omega
theorem IsL.set {ρ : List Addr} {H : Hp} {d : D} {v : V} (q : Is K ρ H d v) : ∀ {ds : List D} {xs : List V} (i : Nat), IsL K ρ H ds xs → IsL K ρ H (ds.set i d) (xs.set i v)
  | [], xs, i, h => by unfold IsL at h; subst h; show IsL K ρ H [] []; unfold IsL; rfl
  | c :: ds, xs, 0, h => by
    unfold IsL at h
    obtain ⟨x, r, rfl, _, h2⟩ := h
    show IsL K ρ H (d :: ds) (v :: r)
    unfold IsL
    exact ⟨v, r, rfl, q, h2⟩
  | c :: ds, xs, i + 1, h => by
    unfold IsL at h
    obtain ⟨x, r, rfl, h1, h2⟩ := h
    show IsL K ρ H (c :: ds.set i d) (x :: r.set i v)
    unfold IsL
    exact ⟨x, _, rfl, h1, IsL.set q i h2⟩
theorem mrL_set {d : D} : ∀ {ds : List D} {i : Nat}, mrL (ds.set i d) ≤ max (mrL ds) d.mr
  | [], _ => Nat.zero_le _
  | c :: ds, 0 => by show max d.mr (mrL ds) ≤ max (max c.mr (mrL ds)) d.mr; omega
  | c :: ds, i + 1 => by
    show max c.mr (mrL (ds.set i d)) ≤ max (max c.mr (mrL ds)) d.mr
    have := mrL_set (d := d) (ds := ds) (i := i); omega

/-! ### int operations -/
def stepI (f : Int → Int → Option D) : D → D → PH → Res D := fun a b h => match a, b with
  | .int i, .int j => (match f i j with
    | some d => .ok d h
    | none => .stuck)
  | _, _ => .stuck
/-- an operation on ints whose answer is an int -/
theorem op2_int {f : Int → Int → Option D} {C : Int → Int → Prop} {g : Int → Int → V} (hf : ∀ i j d, f i j = some d → C i j ∧ ∀ ρ H n, RD K ρ H n d (g i j)) : Op2 K W (stepI f) (rI C g) := by
  intro σ ρ h H d e x y Q at_ rx ry p
  unfold stepI at p
  split at p
  · rename_i i j
    cases q : f i j with
    | none => rw [q] at p; exact p.elim
    | some d =>
      rw [q] at p
      obtain ⟨c, r⟩ := hf i j d q
      exact ⟨i, j, rx.1.int, ry.1.int, c, p ρ _ H at_.refl (r _ _ _)⟩
  · exact p.elim
theorem op2_int0 {f : Int → Int → Option D} {g : Int → Int → V} (hf : ∀ i j d, f i j = some d → ∀ ρ H n, RD K ρ H n d (g i j)) : Op2 K W (stepI f) (rI0 g) := by
  intro σ ρ h H d e x y Q at_ rx ry p
  obtain ⟨i, j, e1, e2, _, q⟩ := op2_int (C := fun _ _ => True) (g := g) (fun i j d q => ⟨trivial, hf i j d q⟩) σ ρ h H d e x y Q at_ rx ry p
  exact ⟨i, j, e1, e2, q⟩
theorem Op2.or {f f' : D → D → PH → Res D} {r r' : R2} {g : D → D → PH → Res D} (h1 : Op2 K W f r) (h2 : Op2 K W f' r') (hg : ∀ a b h, g a b h = f a b h ∨ g a b h = f' a b h) : Op2 K W g (fun x y H Q => r x y H Q ∨ r' x y H Q) := by
  intro σ ρ h H d e x y Q at_ rx ry p
  rcases hg d e h with q | q
  · rw [q] at p; exact .inl (h1 σ ρ h H d e x y Q at_ rx ry p)
  · rw [q] at p; exact .inr (h2 σ ρ h H d e x y Q at_ rx ry p)
def iAdd : D → D → PH → Res D := stepI fun i j => some (.int (i + j))
def subF : D → D → PH → Res D := stepI fun i j => some (.int (i - j))
def bitsOk (i j : Int) : Bool := Nat.ble (i.natAbs.log2 + j.natAbs.log2) 900000
def iMul : D → D → PH → Res D := stepI fun i j => if bitsOk i j then some (.int (i * j)) else none
def fdivF : D → D → PH → Res D := stepI fun i j => if 0 < j ∧ j.natAbs.log2 < 9000 then some (.int (i / j)) else none
def modF : D → D → PH → Res D := stepI fun i j => if 0 < j then some (.int (i % j)) else none
/-- bounds said by Nat.ble: the kernel leaves them alone under a stuck number -/
def powOk (i j : Int) : Bool := Nat.ble j.toNat 1000000 && Nat.ble i.natAbs 18446744073709551615
def shlOk (i j : Int) : Bool := Nat.ble j.toNat 1000000 && Nat.ble i.natAbs.log2 1000000
theorem powOk_iff {i j : Int} (z : 0 ≤ j) : powOk i j = true ↔ j ≤ 1000000 ∧ i.natAbs < 2 ^ 64 := by
  unfold powOk
  rw [Bool.and_eq_true, Nat.ble_eq, Nat.ble_eq]
  constructor <;> intro h <;> constructor <;> omega
theorem shlOk_iff {i j : Int} (z : 0 ≤ j) : shlOk i j = true ↔ j ≤ 1000000 ∧ i.natAbs.log2 ≤ 1000000 := by
  unfold shlOk
  rw [Bool.and_eq_true, Nat.ble_eq, Nat.ble_eq]
  constructor <;> intro h <;> constructor <;> omega
def powF : D → D → PH → Res D := stepI fun i j => if 0 ≤ j ∧ powOk i j = true then some (.int (i ^ j.toNat)) else none
def shlF : D → D → PH → Res D := stepI fun i j => if 0 ≤ j ∧ shlOk i j = true then some (.int (i * 2 ^ j.toNat)) else none
def shrF : D → D → PH → Res D := stepI fun i j => if 0 ≤ j then some (.int (i / 2 ^ j.toNat)) else none
theorem o_iadd : Op2 K W iAdd (rI0 fun i j => .int (i + j)) := op2_int0 fun i j d q _ _ _ => by cases q; exact is_int
theorem o_sub : Op2 K W subF (rI0 fun i j => .int (i - j)) := op2_int0 fun i j d q _ _ _ => by cases q; exact is_int
theorem lt_log2 (n : Nat) : n < 2 ^ (n.log2 + 1) := Nat.lt_log2_self
theorem o_imul : Op2 K W iMul (rI CMulW fun i j => .int (i * j)) := op2_int fun i j d q => by
  have q : (if bitsOk i j = true then some (D.int (i * j)) else none) = some d := q
  split at q
  · rename_i c
    cases q
    have c' : i.natAbs.log2 + j.natAbs.log2 ≤ 900000 := Nat.le_of_ble_eq_true c
    exact ⟨wide_mul (lt_log2 _) (lt_log2 _) (by omega) (by omega) (by omega), fun _ _ _ => is_int⟩
  · cases q
theorem o_fdiv : Op2 K W fdivF (rI CDivW fun i j => .int (i / j)) := op2_int fun i j d q => by
  have q : (if 0 < j ∧ j.natAbs.log2 < 9000 then some (D.int (i / j)) else none) = some d := q
  split at q
  · rename_i c
    cases q
    exact ⟨wide_div c.1 (lt_log2 _) (by omega) (by omega), fun _ _ _ => is_int⟩
  · cases q
theorem o_mod : Op2 K W modF (rI (fun _ j => 0 < j) fun i j => .int (i % j)) := op2_int fun i j d q => by
  have q : (if 0 < j then some (D.int (i % j)) else none) = some d := q
  split at q
  · rename_i c
    cases q
    exact ⟨c, fun _ _ _ => is_int⟩
  · cases q
theorem o_pow : Op2 K W powF (rI CPow fun i j => .int (i ^ j.toNat)) := op2_int fun i j d q => by
  have q : (if 0 ≤ j ∧ powOk i j = true then some (D.int (i ^ j.toNat)) else none) = some d := q
  split at q
  · rename_i c
    cases q
    exact ⟨⟨c.1, (powOk_iff c.1).mp c.2⟩, fun _ _ _ => is_int⟩
  · cases q
theorem shl_ok {i j : Int} (c : 0 ≤ j ∧ j ≤ 1000000 ∧ i.natAbs.log2 ≤ 1000000) : CShl i j := by
  refine ⟨c.1, ?_⟩
  have h1 : Builtin.Int.intBits i ≤ i.natAbs.log2 + 1 := by
    unfold Builtin.Int.intBits
    split <;> omega
  have h2 := c.2.1
  have h3 := c.2.2
  omega
theorem o_shl : Op2 K W shlF (rI CShl fun i j => .int (i * 2 ^ j.toNat)) := op2_int fun i j d q => by
  have q : (if 0 ≤ j ∧ shlOk i j = true then some (D.int (i * 2 ^ j.toNat)) else none) = some d := q
  split at q
  · rename_i c
    cases q
    exact ⟨shl_ok ⟨c.1, (shlOk_iff c.1).mp c.2⟩, fun _ _ _ => is_int⟩
  · cases q
theorem o_shr : Op2 K W shrF (rI (fun _ j => 0 ≤ j) fun i j => .int (i / 2 ^ j.toNat)) := op2_int fun i j d q => by
  have q : (if 0 ≤ j then some (D.int (i / 2 ^ j.toNat)) else none) = some d := q
  split at q
  · rename_i c
    cases q
    exact ⟨c, fun _ _ _ => is_int⟩
  · cases q

/-! ### + of texts, tuples, lists; * of lists -/
def sAdd : D → D → PH → Res D := fun a b h => match a, b with
  | .str x, .str y => if x.length + y.length ≤ 16777216 then .ok (.str (x ++ y)) h else .stuck
  | _, _ => .stuck
theorem o_sadd : Op2 K W sAdd (fun x y H Q => ∃ i j, x = .str i ∧ y = .str j ∧ i.length + j.length ≤ sizeLine ∧ Q (.str (i ++ j)) H) := by
  intro σ ρ h H d e x y Q at_ rx ry p
  unfold sAdd at p
  split at p
  · split at p
    · rename_i i j c
      exact ⟨i, j, rx.1.str, ry.1.str, by rw [sizeLine_eq]; exact c, p ρ _ H at_.refl is_str⟩
    · exact p.elim
  · exact p.elim
/-- the items of a list, wherever it stands -/
def itemsL (h : PH) : D → Option (List D)
  | .frl ds => some ds
  | .ref n => (match h.cs[n]? with
    | some (.lst ds) => some ds
    | _ => none)
  | _ => none
theorem itemsL_is {ρ : List Addr} {h : PH} {H : Hp} (x : At K ρ h H) {d : D} {v : V} {ds : List D} (e : itemsL h d = some ds) (r : RD K ρ H h.cs.length d v) :
    ∃ a xs, v = .ref a ∧ SqL K H a xs ∧ IsL K ρ H ds xs ∧ mrL ds ≤ h.cs.length := by
  cases d with
  | frl es =>
    have e' : some es = some ds := e
    cases e'
    obtain ⟨a, xs, h1, h2, h3⟩ := r.1.frl
    exact ⟨a, xs, h1, h2.sq, h3, r.2⟩
  | ref n =>
    have e' : (match h.cs[n]? with
    | some (.lst ds) => some ds
    | _ => none) = some ds := e
    split at e'
    · rename_i es q
      cases e'
      obtain ⟨a, xs, h1, _, h2, h3, h4⟩ := x.lst q r.1
      exact ⟨a, xs, h1, SqL.of h2, h3, h4⟩
    · cases e'
  | _ => cases e
/-- the items of a list or a tuple -/
def itemsS (h : PH) : D → Option (List D)
  | .tup ds => some ds
  | d => itemsL h d
def refLst (h : PH) : D → Option (Nat × List D)
  | .ref n => (match h.cs[n]? with
    | some (.lst ds) => some (n, ds)
    | _ => none)
  | _ => none
theorem refLst_is {ρ : List Addr} {h : PH} {H : Hp} (x : At K ρ h H) {d : D} {v : V} {n : Nat} {ds : List D} (e : refLst h d = some (n, ds)) (r : RD K ρ H h.cs.length d v) :
    d = .ref n ∧ h.cs[n]? = some (.lst ds) ∧ ∃ a xs, v = .ref a ∧ ρ[n]? = some a ∧ H a = some (.lst xs) ∧ IsL K ρ H ds xs ∧ mrL ds ≤ h.cs.length := by
  cases d with
  | ref m =>
    have e' : (match h.cs[m]? with
    | some (.lst ds) => some (m, ds)
    | _ => none) = some (n, ds) := e
    split at e'
    · rename_i es q
      cases e'
      exact ⟨rfl, q, x.lst q r.1⟩
    · cases e'
  | _ => cases e
/-- a new list of given items: the end of an operation -/
theorem push_lst {ρ : List Addr} {h : PH} {H : Hp} (x : At K ρ h H) {ds : List D} {xs : List V} (i : IsL K ρ H ds xs) (l : mrL ds ≤ h.cs.length) {p : Addr} (hp : H p = none) :
    ∃ ρ', Ext K ρ H (h.push (.lst ds)) ρ' (upd H p (.lst xs)) ∧ RD K ρ' (upd H p (.lst xs)) (h.push (.lst ds)).cs.length (.ref h.cs.length) (.ref p) := by
  refine ⟨ρ ++ [p], Ext.push x.heap x.wf hp l fun H' e k => ⟨xs, e, IsL.mono k ρ.length (fun i hi a ha => by rw [List.getElem?_append_left hi]; exact ha) ds xs (by rw [x.heap.len]; exact l) i⟩, ?_, ?_⟩
  · unfold Is
    exact ⟨p, by rw [← x.heap.len, List.getElem?_append_right (Nat.le_refl _), Nat.sub_self]; rfl, rfl⟩
  · unfold D.mr
    show _ ≤ (h.cs ++ [Cell.lst ds]).length
    rw [List.length_append]; exact Nat.le_refl _
/-- a new tuple -/
theorem push_tup {ρ : List Addr} {h : PH} {H : Hp} (x : At K ρ h H) {ds : List D} {xs : List V} (i : IsL K ρ H ds xs) (l : mrL ds ≤ h.cs.length) {p : Addr} (hp : H p = none) :
    Ext K ρ H h ρ (upd H p (.tup xs)) ∧ RD K ρ (upd H p (.tup xs)) h.cs.length (.tup ds) (.ref p) := by
  have e := Ext.obj (o := .tup xs) x.heap x.wf hp
  refine ⟨e, ?_, l⟩
  unfold Is
  exact ⟨p, xs, rfl, SqT.of upd_same, e.isL (by rw [x.heap.len]; exact l) i⟩
def newL (ds : List D) (h : PH) : Res D := .ok (.ref h.cs.length) (h.push (.lst ds))
def lAdd : D → D → PH → Res D := fun a b h => match refLst h a, refLst h b with
  | some (_, xs), some (_, ys) => if xs.length + ys.length ≤ 16777216 then newL (xs ++ ys) h else .stuck
  | _, _ => .stuck
theorem o_ladd : Op2 K W lAdd rCat := by
  intro σ ρ h H d e x y Q at_ rx ry p
  unfold lAdd at p
  split at p
  · rename_i n ds m es q1 q2
    split at p
    · rename_i c
      obtain ⟨_, _, a, xs, rfl, _, h1, i1, l1⟩ := refLst_is at_ q1 rx
      obtain ⟨_, _, b, ys, rfl, _, h2, i2, l2⟩ := refLst_is at_ q2 ry
      refine ⟨a, b, xs, ys, rfl, rfl, h1, h2, by rw [sizeLine_eq, i1.length, i2.length]; exact c, fun q hq => ?_⟩
      obtain ⟨ρ', e1, e2⟩ := push_lst at_ (i1.append i2) (by rw [mrL_append]; omega) hq
      exact p ρ' _ _ e1 e2
    · exact p.elim
  · exact p.elim
def tAddF : D → D → PH → Res D := fun a b h => match a, b with
  | .tup xs, .tup ys => if xs.length + ys.length ≤ 16777216 then .ok (.tup (xs ++ ys)) h else .stuck
  | _, _ => .stuck
theorem IsL.nil {ρ : List Addr} {H : Hp} {xs : List V} (h : IsL K ρ H [] xs) : xs = [] := by unfold IsL at h; exact h
theorem IsL.ne {ρ : List Addr} {H : Hp} {d : D} {ds : List D} {xs : List V} (h : IsL K ρ H (d :: ds) xs) : xs ≠ [] := by
  unfold IsL at h
  obtain ⟨x, r, rfl, _⟩ := h
  exact fun z => by cases z
theorem IsL.nil_of {ρ : List Addr} {H : Hp} {ds : List D} (h : IsL K ρ H ds []) : ds = [] := by
  cases ds with
  | nil => rfl
  | cons d ds => exact absurd rfl h.ne
theorem o_tadd : Op2 K W tAddF (rCatA K) := by
  intro σ ρ h H d e x y Q at_ rx ry p
  unfold tAddF at p
  split at p
  · rename_i ds es
    split at p
    · rename_i c
      obtain ⟨a, xs, rfl, s1, i1⟩ := rx.1.tup
      obtain ⟨b, ys, rfl, s2, i2⟩ := ry.1.tup
      have l1 : mrL ds ≤ h.cs.length := rx.2
      have l2 : mrL es ≤ h.cs.length := ry.2
      refine ⟨a, b, xs, ys, rfl, rfl, s1, s2, by rw [sizeLine_eq, i1.length, i2.length]; exact c, fun z => ?_, fun _ z => ?_, fun _ _ q hq => ?_⟩
      · subst z
        have ez := i1.nil_of
        subst ez
        exact p ρ (.ref b) H at_.refl ry
      · subst z
        have ez := i2.nil_of
        subst ez
        refine p ρ (.ref a) H at_.refl ⟨?_, ?_⟩
        · rw [List.append_nil]; exact rx.1
        · rw [List.append_nil]; exact rx.2
      · obtain ⟨e1, e2⟩ := push_tup at_ (i1.append i2) (by rw [mrL_append]; omega) hq
        exact p ρ _ _ e1 e2
    · exact p.elim
  · exact p.elim
/-- + -/
def addF : D → D → PH → Res D := fun a b h => match a with
  | .int _ => iAdd a b h
  | .str _ => sAdd a b h
  | .tup _ => tAddF a b h
  | _ => lAdd a b h
theorem o_add : Op2 K W addF (fun x y H Q => (rI0 fun i j => .int (i + j)) x y H Q ∨ (fun x y H Q => (∃ i j, x = .str i ∧ y = .str j ∧ i.length + j.length ≤ sizeLine ∧ Q (.str (i ++ j)) H)) x y H Q ∨ rCatA K x y H Q ∨ rCat x y H Q) := by
  intro σ ρ h H d e x y Q at_ rx ry p
  cases d with
  | int i => exact .inl (o_iadd σ ρ h H _ e x y Q at_ rx ry p)
  | str i => exact .inr (.inl (o_sadd σ ρ h H _ e x y Q at_ rx ry p))
  | tup i => exact .inr (.inr (.inl (o_tadd σ ρ h H _ e x y Q at_ rx ry p)))
  | _ => exact .inr (.inr (.inr (o_ladd σ ρ h H _ e x y Q at_ rx ry p)))
/-- a list, a tuple some times -/
def lRep : D → D → PH → Res D := fun a b h => match refLst h a, b with
  | some (_, xs), .int k => if -(2 ^ 63) ≤ k ∧ k < 2 ^ 63 ∧ xs.length * k.toNat ≤ 16777216 then newL (List.replicate k.toNat xs).flatten h else .stuck
  | _, _ => .stuck
theorem IsL.rep {ρ : List Addr} {H : Hp} {ds : List D} {xs : List V} (h : IsL K ρ H ds xs) : ∀ n, IsL K ρ H (List.replicate n ds).flatten (List.replicate n xs).flatten
  | 0 => by show IsL K ρ H [] []; unfold IsL; rfl
  | n + 1 => by
    rw [List.replicate_succ, List.replicate_succ, List.flatten_cons, List.flatten_cons]
    exact h.append (IsL.rep h n)
theorem mrL_rep {ds : List D} : ∀ n, mrL (List.replicate n ds).flatten ≤ mrL ds
  | 0 => Nat.zero_le _
  | n + 1 => by
    rw [List.replicate_succ, List.flatten_cons, mrL_append]
    have := mrL_rep (ds := ds) n; omega
theorem o_lrep : Op2 K W lRep rRep := by
  intro σ ρ h H d e x y Q at_ rx ry p
  unfold lRep at p
  split at p
  · rename_i n ds k q1
    split at p
    · rename_i c
      obtain ⟨_, _, a, xs, rfl, _, h1, i1, l1⟩ := refLst_is at_ q1 rx
      refine ⟨a, k, xs, rfl, ry.1.int, h1, c.1, c.2.1, by rw [sizeLine_eq, i1.length]; exact c.2.2, fun q hq => ?_⟩
      obtain ⟨ρ', e1, e2⟩ := push_lst at_ (i1.rep k.toNat) (Nat.le_trans (mrL_rep _) l1) hq
      exact p ρ' _ _ e1 e2
    · exact p.elim
  · exact p.elim
def tRep : D → D → PH → Res D := fun a b h => match a, b with
  | .tup (x :: xs), .int k => if 2 ≤ k ∧ k ≤ 1000 ∧ (x :: xs).length ≤ 1000 then .ok (.tup (List.replicate k.toNat (x :: xs)).flatten) h else .stuck
  | _, _ => .stuck
theorem o_trep : Op2 K W tRep (rRepT K) := by
  intro σ ρ h H d e x y Q at_ rx ry p
  unfold tRep at p
  split at p
  · rename_i d ds k
    split at p
    · rename_i c
      obtain ⟨a, xs, rfl, s1, i1⟩ := rx.1.tup
      refine ⟨a, k, xs, rfl, ry.1.int, s1, i1.ne, c.1, c.2.1, by rw [i1.length]; exact c.2.2, fun q hq => ?_⟩
      obtain ⟨e1, e2⟩ := push_tup at_ (i1.rep k.toNat) (Nat.le_trans (mrL_rep _) rx.2) hq
      exact p ρ _ _ e1 e2
    · exact p.elim
  · exact p.elim
/-- a text some times -/
def repS (x : Str) (n : Nat) : Str := ⟨(List.replicate n x.cps).foldl (· ++ ·) #[]⟩
def rRepS : R2 := fun x y H Q => ∃ (i : Str) (k : Int), x = .str i ∧ y = .int k ∧ 2 ≤ k ∧ k ≤ 1000 ∧ 1 ≤ i.length ∧ i.length ≤ 1000 ∧ (repS i k.toNat).length ≤ sizeLine ∧ Q (.str (repS i k.toNat)) H
theorem op_repS {X : Cx} : OpR X (binaryOp .Mult) rRepS := by
  intro pins s σ H x y v u Q I rx ry h
  obtain ⟨i, k, rfl, rfl, k1, k2, z1, z2, hz, q⟩ := h
  obtain ⟨t, rfl⟩ := rx
  obtain ⟨t', rfl⟩ := ry
  have hm : i.length * k.toNat ≤ 1000 * 1000 := Nat.mul_le_mul z2 (by omega)
  refine PySem.P.mul_str (by rw [decide_eq_false (by omega), decide_eq_false (by omega)]; rfl) (fun _ _ => ?_) (fun _ _ => ?_) ?_
  · have m2 : (i.length : Int) * k ≤ 2 ^ 63 - 1 := by
      have e : ((i.length * k.toNat : Nat) : Int) = (i.length : Int) * k := by rw [Int.natCast_mul, Int.toNat_of_nonneg (by omega)]
      omega
    have := Int.le_ediv_of_mul_le (show 0 < k by omega) m2
    omega
  · show PySem.Builtin.Str.tooLong (i.length * k.toNat) = false
    unfold PySem.Builtin.Str.tooLong
    exact decide_eq_false (by rw [sizeLine_eq]; omega)
  · rw [if_neg (by omega), if_neg (by simp; omega)]
    exact ⟨hz, .str (repS i k.toNat), H, I.tok _, ⟨_, rfl⟩, q⟩
def sRep : D → D → PH → Res D := fun a b h => match a, b with
  | .str x, .int k => if 2 ≤ k ∧ k ≤ 1000 ∧ 1 ≤ x.length ∧ x.length ≤ 1000 ∧ (repS x k.toNat).length ≤ 16777216 then .ok (.str (repS x k.toNat)) h else .stuck
  | _, _ => .stuck
theorem o_srep : Op2 K W sRep rRepS := by
  intro σ ρ h H d e x y Q at_ rx ry p
  unfold sRep at p
  split at p
  · rename_i i k
    split at p
    · rename_i c
      obtain ⟨c1, c2, c3, c4, c5⟩ := c
      exact ⟨i, k, rx.1.str, ry.1.int, c1, c2, c3, c4, by rw [sizeLine_eq]; exact c5, p ρ _ H at_.refl is_str⟩
    · exact p.elim
  · exact p.elim
def mulF : D → D → PH → Res D := fun a b h => match a with
  | .int _ => iMul a b h
  | .tup _ => tRep a b h
  | .str _ => sRep a b h
  | _ => lRep a b h
theorem o_mul : Op2 K W mulF (fun x y H Q => (rI CMulW fun i j => .int (i * j)) x y H Q ∨ rRepT K x y H Q ∨ rRepS x y H Q ∨ rRep x y H Q) := by
  intro σ ρ h H d e x y Q at_ rx ry p
  cases d with
  | int i => exact .inl (o_imul σ ρ h H _ e x y Q at_ rx ry p)
  | tup i => exact .inr (.inl (o_trep σ ρ h H _ e x y Q at_ rx ry p))
  | str i => exact .inr (.inr (.inl (o_srep σ ρ h H _ e x y Q at_ rx ry p)))
  | _ => exact .inr (.inr (.inr (o_lrep σ ρ h H _ e x y Q at_ rx ry p)))
/-- -a -/
def negF : D → PH → Res D := fun a h => match a with
  | .int i => .ok (.int (-i)) h
  | _ => .stuck
theorem o_neg : Op1 K W negF (rU fun i => .int (-i)) := by
  intro σ ρ h H d x Q at_ rx p
  unfold negF at p
  split at p
  · rename_i i
    exact ⟨i, rx.1.int, p ρ _ H at_.refl is_int⟩
  · exact p.elim

/-! ### comparisons -/
def intB (f : Int → Int → Bool) : D → D → PH → Res D := stepI fun i j => some (.bl (f i j))
theorem o_intB {f : Int → Int → Bool} : Op2 K W (intB f) (rI0 fun i j => .bl (f i j)) := op2_int0 fun i j d q _ _ _ => by cases q; exact is_bl
/-- the ints of a list -/
def intsOf : List D → Option (List Int)
  | [] => some []
  | .int i :: r => (match intsOf r with
    | some l => some (i :: l)
    | none => none)
  | _ :: _ => none
theorem intsOf_is {ρ : List Addr} {H : Hp} : ∀ {ds : List D} {ns : List Int} {xs : List V}, intsOf ds = some ns → IsL K ρ H ds xs → xs = ns.map V.int
  | [], ns, xs, e, h => by cases e; exact h.nil
  | d :: ds, ns, xs, e, h => by
    unfold IsL at h
    obtain ⟨x, r, rfl, h1, h2⟩ := h
    cases d with
    | int i =>
      have e' : (match intsOf ds with | some l => some (i :: l) | none => none) = some ns := e
      cases q : intsOf ds with
      | none => rw [q] at e'; cases e'
      | some l =>
        rw [q] at e'
        cases e'
        rw [h1.int, intsOf_is q h2]; rfl
    | _ => cases e
def ltT : D → D → PH → Res D := fun a b h => match a, b with
  | .tup xs, .tup ys => (match intsOf xs, intsOf ys with
    | some ns, some ms => .ok (.bl (HT.lexLt ns ms)) h
    | _, _ => .stuck)
  | _, _ => .stuck
theorem o_ltT : Op2 K W ltT (rLtT K) := by
  intro σ ρ h H d e x y Q at_ rx ry p
  unfold ltT at p
  split at p
  · split at p
    · rename_i ns ms q1 q2
      obtain ⟨a, xs, rfl, s1, i1⟩ := rx.1.tup
      obtain ⟨b, ys, rfl, s2, i2⟩ := ry.1.tup
      have z1 := intsOf_is q1 i1
      have z2 := intsOf_is q2 i2
      subst z1; subst z2
      exact ⟨a, b, ns, ms, rfl, rfl, s1, s2, p ρ _ H at_.refl is_bl⟩
    · exact p.elim
  · exact p.elim
def ltF : D → D → PH → Res D := fun a b h => match a with
  | .int _ => intB (fun i j => decide (i < j)) a b h
  | _ => ltT a b h
theorem o_lt : Op2 K W ltF (fun x y H Q => (rI0 fun i j => .bl (decide (i < j))) x y H Q ∨ rLtT K x y H Q) := by
  intro σ ρ h H d e x y Q at_ rx ry p
  cases d with
  | int i => exact .inl (o_intB σ ρ h H _ e x y Q at_ rx ry p)
  | _ => exact .inr (o_ltT σ ρ h H _ e x y Q at_ rx ry p)
def leF : D → D → PH → Res D := intB fun i j => decide (i ≤ j)
def gtF : D → D → PH → Res D := intB fun i j => decide (j < i)
def geF : D → D → PH → Res D := intB fun i j => decide (j ≤ i)

/-! ### data -/
mutual
def toPyG (f : Nat → Option PyData) : D → Option PyData
  | .non => some .none
  | .bl b => some (.bool b)
  | .int i => some (.int i)
  | .str x => some (.str x)
  | .tup ds => (match toPyL f ds with
    | some ps => some (.tuple ps)
    | none => none)
  | .frl ds => (match toPyL f ds with
    | some ps => some (.list ps)
    | none => none)
  | .ref n => f n
  | .ty _ => none
  | .glb _ => none
def toPyL (f : Nat → Option PyData) : List D → Option (List PyData)
  | [] => some []
  | d :: ds => (match toPyG f d with
    | some p => (match toPyL f ds with
      | some ps => some (p :: ps)
      | none => none)
    | none => none)
end
def cellPy (h : PH) : Nat → Nat → Option PyData
  | 0, _ => none
  | k + 1, n => (match h.cs[n]? with
    | some (.lst ds) => (match toPyL (cellPy h k) ds with
      | some ps => some (.list ps)
      | none => none)
    | _ => none)
def toPy (h : PH) (d : D) : Option PyData := toPyG (cellPy h 3) d
mutual
theorem toPyG_is {ρ : List Addr} {H : Hp} {f : Nat → Option PyData} (hf : ∀ n p a, f n = some p → ρ[n]? = some a → Dp K H (.ref a) p) : ∀ (d : D) (p : PyData) (v : V), toPyG f d = some p → Is K ρ H d v → Dp K H v p
  | .non, p, v, e, h => by unfold toPyG at e; cases e; rw [h.non]; exact .non
  | .bl b, p, v, e, h => by unfold toPyG at e; cases e; rw [h.bl]; exact .bl b
  | .int i, p, v, e, h => by unfold toPyG at e; cases e; rw [h.int]; exact .int i
  | .str x, p, v, e, h => by unfold toPyG at e; cases e; rw [h.str]; exact .str x
  | .tup ds, p, v, e, h => by
    unfold toPyG at e
    obtain ⟨a, xs, rfl, s, i⟩ := h.tup
    split at e
    · rename_i ps q
      cases e
      exact .tup s (toPyL_is hf ds ps xs q i)
    · cases e
  | .frl ds, p, v, e, h => by
    unfold toPyG at e
    obtain ⟨a, xs, rfl, s, i⟩ := h.frl
    split at e
    · rename_i ps q
      cases e
      exact .lst s.sq (toPyL_is hf ds ps xs q i)
    · cases e
  | .ref n, p, v, e, h => by
    unfold toPyG at e
    obtain ⟨a, ha, rfl⟩ := h.ref
    exact hf n p a e ha
  | .ty _, p, v, e, h => by unfold toPyG at e; cases e
  | .glb _, p, v, e, h => by unfold toPyG at e; cases e
theorem toPyL_is {ρ : List Addr} {H : Hp} {f : Nat → Option PyData} (hf : ∀ n p a, f n = some p → ρ[n]? = some a → Dp K H (.ref a) p) : ∀ (ds : List D) (ps : List PyData) (xs : List V), toPyL f ds = some ps → IsL K ρ H ds xs → DpAll K H xs ps
  | [], ps, xs, e, h => by unfold toPyL at e; cases e; rw [h.nil]; exact .nil
  | d :: ds, ps, xs, e, h => by
    unfold toPyL at e
    unfold IsL at h
    obtain ⟨x, r, rfl, h1, h2⟩ := h
    split at e
    · rename_i p q1
      split at e
      · rename_i qs q2
        cases e
        exact .cons (toPyG_is hf d p x q1 h1) (toPyL_is hf ds qs r q2 h2)
      · cases e
    · cases e
end
theorem cellPy_is {ρ : List Addr} {h : PH} {H : Hp} (x : At K ρ h H) : ∀ k n p a, cellPy h k n = some p → ρ[n]? = some a → Dp K H (.ref a) p
  | 0, n, p, a, e, _ => by cases e
  | k + 1, n, p, a, e, ha => by
    unfold cellPy at e
    split at e
    · rename_i ds q
      split at e
      · rename_i ps q2
        cases e
        obtain ⟨xs, h1, h2⟩ := x.heap.at_ n _ a q ha
        exact .lst (SqL.of h1) (toPyL_is (cellPy_is x k) ds ps xs q2 h2)
      · cases e
    · cases e
theorem toPy_is {ρ : List Addr} {h : PH} {H : Hp} (x : At K ρ h H) {d : D} {p : PyData} {v : V} (e : toPy h d = some p) (i : Is K ρ H d v) : Dp K H v p := toPyG_is (cellPy_is x 3) d p v e i
def eqD (h : PH) (a b : D) : Option Bool := match toPy h a with
  | some p => (match toPy h b with
    | some q => if SeqAt.shaped p = true ∧ SeqAt.shaped q = true then some (PyData.eqv p q) else none
    | none => none)
  | none => none
def eqB (a b : D) (h : PH) : Option Bool := match a, b with
  | .int i, .int j => some (decide (i = j))
  | .str i, .str j => some (decide (i = j))
  | .bl i, .bl j => some (decide (i = j))
  | a, b => eqD h a b
theorem eqB_is {ρ : List Addr} {h : PH} {H : Hp} (at_ : At K ρ h H) {a b : D} {x y : V} {c : Bool} (e : eqB a b h = some c) (rx : RD K ρ H h.cs.length a x) (ry : RD K ρ H h.cs.length b y) :
    (scal x y = true ∧ c = decide (x = y)) ∨ ∃ d e, Dp K H x d ∧ Dp K H y e ∧ SeqAt.shaped d = true ∧ SeqAt.shaped e = true ∧ c = PyData.eqv d e := by
  unfold eqB at e
  split at e
  · rename_i i j
    cases e
    rw [rx.1.int, ry.1.int]
    refine .inl ⟨rfl, ?_⟩
    rw [dec_int, Bool.beq_eq_decide_eq]
  · rename_i i j
    cases e
    rw [rx.1.str, ry.1.str]
    refine .inl ⟨rfl, ?_⟩
    rw [dec_str, Bool.beq_eq_decide_eq]
  · rename_i i j
    cases e
    rw [rx.1.bl, ry.1.bl]
    refine .inl ⟨rfl, ?_⟩
    rw [dec_bl, Bool.beq_eq_decide_eq]
  · unfold eqD at e
    split at e
    · rename_i p q1
      split at e
      · rename_i q q2
        split at e
        · rename_i c
          cases e
          exact .inr ⟨p, q, toPy_is at_ q1 rx.1, toPy_is at_ q2 ry.1, c.1, c.2, rfl⟩
        · cases e
      · cases e
    · cases e
def eqF : D → D → PH → Res D := fun a b h => match eqB a b h with
  | some c => .ok (.bl c) h
  | none => .stuck
def neF : D → D → PH → Res D := fun a b h => match eqB a b h with
  | some c => .ok (.bl (!c)) h
  | none => .stuck
theorem o_eq : Op2 K W eqF (fun x y H Q => rEq x y H Q ∨ rEqD K x y H Q) := by
  intro σ ρ h H d e x y Q at_ rx ry p
  unfold eqF at p
  split at p
  · rename_i c q
    rcases eqB_is at_ q rx ry with ⟨h1, h2⟩ | ⟨d, e, h1, h2, h3, h4, h5⟩
    · subst h2
      exact .inl ⟨h1, p ρ _ H at_.refl is_bl⟩
    · subst h5
      exact .inr ⟨d, e, h1, h2, h3, h4, p ρ _ H at_.refl is_bl⟩
  · exact p.elim
theorem o_ne : Op2 K W neF (fun x y H Q => rNe x y H Q ∨ rNeD K x y H Q) := by
  intro σ ρ h H d e x y Q at_ rx ry p
  unfold neF at p
  split at p
  · rename_i c q
    rcases eqB_is at_ q rx ry with ⟨h1, h2⟩ | ⟨d, e, h1, h2, h3, h4, h5⟩
    · subst h2
      exact .inl ⟨h1, p ρ _ H at_.refl is_bl⟩
    · subst h5
      exact .inr ⟨d, e, h1, h2, h3, h4, p ρ _ H at_.refl is_bl⟩
  · exact p.elim

/-! ### is None -/
def isNonD : D → Bool
  | .non => true
  | _ => false
def isF : D → D → PH → Res D := fun a b h => match b with
  | .non => .ok (.bl (isNonD a)) h
  | _ => .stuck
def isNotF : D → D → PH → Res D := fun a b h => match b with
  | .non => .ok (.bl (!isNonD a)) h
  | _ => .stuck
theorem isNonD_is {ρ : List Addr} {H : Hp} {d : D} {v : V} (h : Is K ρ H d v) : decide (v = .non) = isNonD d := by
  cases d with
  | non => rw [h.non]; rfl
  | int i => rw [h.int]; rfl
  | bl i => rw [h.bl]; rfl
  | str i => rw [h.str]; rfl
  | tup i => obtain ⟨_, _, rfl, _⟩ := h.tup; rfl
  | frl i => obtain ⟨_, _, rfl, _⟩ := h.frl; rfl
  | ref i => obtain ⟨_, _, rfl⟩ := h.ref; rfl
  | ty i => unfold Is at h; rw [h]; rfl
  | glb i => unfold Is at h; rw [h]; rfl
theorem o_is : Op2 K W isF (fun x y H Q => y = .non ∧ Q (.bl (decide (x = .non))) H) := by
  intro σ ρ h H d e x y Q at_ rx ry p
  unfold isF at p
  split at p
  · refine ⟨ry.1.non, ?_⟩
    rw [isNonD_is rx.1]
    exact p ρ _ H at_.refl is_bl
  · exact p.elim
theorem o_isNot : Op2 K W isNotF (fun x y H Q => y = .non ∧ Q (.bl (!decide (x = .non))) H) := by
  intro σ ρ h H d e x y Q at_ rx ry p
  unfold isNotF at p
  split at p
  · refine ⟨ry.1.non, ?_⟩
    rw [isNonD_is rx.1]
    exact p ρ _ H at_.refl is_bl
  · exact p.elim

/-! ### in -/
def flatD : D → Bool
  | .non => true
  | .bl _ => true
  | .int _ => true
  | .str _ => true
  | _ => false
def eqFl : D → D → Bool
  | .non, .non => true
  | .bl a, .bl b => a == b
  | .bl a, .int b => (if a then 1 else 0) == b
  | .int a, .bl b => a == (if b then 1 else 0)
  | .int a, .int b => a == b
  | .str a, .str b => a == b
  | _, _ => false
def strIn (x y : Str) : Bool := !(Builtin.Str.occurrences y x 0 y.length 1).isEmpty
theorem flat_is {ρ : List Addr} {H : Hp} {d : D} {v : V} (f : flatD d = true) (h : Is K ρ H d v) : flatV v = true := by
  cases d with
  | non => rw [h.non]; rfl
  | int i => rw [h.int]; rfl
  | bl i => rw [h.bl]; rfl
  | str i => rw [h.str]; rfl
  | _ => cases f
theorem flat_isL {ρ : List Addr} {H : Hp} : ∀ {ds : List D} {xs : List V}, ds.all flatD = true → IsL K ρ H ds xs → xs.all flatV = true
  | [], xs, _, h => by rw [h.nil]; rfl
  | d :: ds, xs, f, h => by
    unfold IsL at h
    obtain ⟨x, r, rfl, h1, h2⟩ := h
    rw [List.all_cons, Bool.and_eq_true] at f ⊢
    exact ⟨flat_is f.1 h1, flat_isL f.2 h2⟩
theorem eqFl_is {ρ : List Addr} {H : Hp} {d e : D} {v u : V} (f : flatD d = true) (g : flatD e = true) (h : Is K ρ H d v) (k : Is K ρ H e u) : eqV v u = eqFl d e := by
  cases d with
  | non => rw [h.non]; cases e with
    | non => rw [k.non]; rfl
    | int j => rw [k.int]; rfl
    | bl j => rw [k.bl]; rfl
    | str j => rw [k.str]; rfl
    | _ => cases g
  | int i => rw [h.int]; cases e with
    | non => rw [k.non]; rfl
    | int j => rw [k.int]; rfl
    | bl j => rw [k.bl]; rfl
    | str j => rw [k.str]; rfl
    | _ => cases g
  | bl i => rw [h.bl]; cases e with
    | non => rw [k.non]; rfl
    | int j => rw [k.int]; rfl
    | bl j => rw [k.bl]; rfl
    | str j => rw [k.str]; rfl
    | _ => cases g
  | str i => rw [h.str]; cases e with
    | non => rw [k.non]; rfl
    | int j => rw [k.int]; rfl
    | bl j => rw [k.bl]; rfl
    | str j => rw [k.str]; rfl
    | _ => cases g
  | _ => cases f
theorem inV_is {ρ : List Addr} {H : Hp} {e : D} {u : V} (g : flatD e = true) (k : Is K ρ H e u) : ∀ {ds : List D} {xs : List V}, ds.all flatD = true → IsL K ρ H ds xs → inV u xs = ds.any fun d => eqFl d e
  | [], xs, _, h => by rw [h.nil]; rfl
  | d :: ds, xs, f, h => by
    unfold IsL at h
    obtain ⟨x, r, rfl, h1, h2⟩ := h
    rw [List.all_cons, Bool.and_eq_true] at f
    unfold inV
    rw [List.any_cons, List.any_cons, eqFl_is f.1 g h1 k]
    have := inV_is g k f.2 h2
    unfold inV at this
    rw [this]
/-- is a in b -/
def inB (a b : D) (h : PH) : Option Bool := match b with
  | .str y => (match a with
    | .str x => some (strIn x y)
    | _ => none)
  | b => (match itemsS h b with
    | some ds => if flatD a = true ∧ ds.all flatD = true then some (ds.any fun d => eqFl d a) else
        (match toPy h a, toPy h b with
        | some p, some (.list ps) => if SeqAt.shaped p = true ∧ SeqAt.shaped (.list ps) = true then some (ps.any fun z => PyData.eqv z p) else none
        | _, _ => none)
    | none => none)
theorem itemsS_is {ρ : List Addr} {h : PH} {H : Hp} (x : At K ρ h H) {d : D} {v : V} {ds : List D} (e : itemsS h d = some ds) (r : RD K ρ H h.cs.length d v) :
    ∃ a xs, v = .ref a ∧ (SqL K H a xs ∨ SqT K H a xs) ∧ IsL K ρ H ds xs ∧ mrL ds ≤ h.cs.length := by
  cases d with
  | tup es =>
    have e' : some es = some ds := e
    cases e'
    obtain ⟨a, xs, h1, h2, h3⟩ := r.1.tup
    exact ⟨a, xs, h1, .inr h2, h3, r.2⟩
  | frl es =>
    obtain ⟨a, xs, h1, h2, h3, h4⟩ := itemsL_is (d := .frl es) x e r
    exact ⟨a, xs, h1, .inl h2, h3, h4⟩
  | ref n =>
    obtain ⟨a, xs, h1, h2, h3, h4⟩ := itemsL_is (d := .ref n) x e r
    exact ⟨a, xs, h1, .inl h2, h3, h4⟩
  | _ => cases e
theorem inB_is {ρ : List Addr} {h : PH} {H : Hp} (at_ : At K ρ h H) {a b : D} {x y : V} {c : Bool} (e : inB a b h = some c) (rx : RD K ρ H h.cs.length a x) (ry : RD K ρ H h.cs.length b y) :
    (∃ i j, x = .str i ∧ y = .str j ∧ c = !(Builtin.Str.occurrences j i 0 j.length 1).isEmpty) ∨ (∃ p xs, y = .ref p ∧ (SqL K H p xs ∨ SqT K H p xs) ∧ flatV x = true ∧ xs.all flatV = true ∧ c = inV x xs) ∨
      ∃ d ds, Dp K H x d ∧ Dp K H y (.list ds) ∧ SeqAt.shaped d = true ∧ SeqAt.shaped (.list ds) = true ∧ c = ds.any fun z => PyData.eqv z d := by
  unfold inB at e
  split at e
  · rename_i j
    cases a with
    | str i =>
      cases e
      exact .inl ⟨i, j, rx.1.str, ry.1.str, rfl⟩
    | _ => cases e
  · split at e
    · rename_i ds q
      split at e
      · rename_i f
        cases e
        obtain ⟨p, xs, rfl, s, i, _⟩ := itemsS_is at_ q ry
        exact .inr (.inl ⟨p, xs, rfl, s, flat_is f.1 rx.1, flat_isL f.2 i, (inV_is f.1 rx.1 f.2 i).symm⟩)
      · split at e
        · rename_i p ps q1 q2
          split at e
          · rename_i f
            cases e
            exact .inr (.inr ⟨p, ps, toPy_is at_ q1 rx.1, toPy_is at_ q2 ry.1, f.1, f.2, rfl⟩)
          · cases e
        · cases e
    · cases e
def inF : D → D → PH → Res D := fun a b h => match inB a b h with
  | some c => .ok (.bl c) h
  | none => .stuck
def notInF : D → D → PH → Res D := fun a b h => match inB a b h with
  | some c => .ok (.bl (!c)) h
  | none => .stuck
theorem o_in : Op2 K W inF (fun x y H Q => (fun x y H Q => ∃ i j, x = .str i ∧ y = .str j ∧ Q (.bl (!(Builtin.Str.occurrences j i 0 j.length 1).isEmpty)) H) x y H Q ∨ rIn K false x y H Q ∨ rInD K x y H Q) := by
  intro σ ρ h H d e x y Q at_ rx ry p
  unfold inF at p
  split at p
  · rename_i c q
    have fin := p ρ _ H at_.refl is_bl
    rcases inB_is at_ q rx ry with ⟨i, j, h1, h2, h3⟩ | ⟨a, xs, h1, h2, h3, h4, h5⟩ | ⟨d, ds, h1, h2, h3, h4, h5⟩
    · subst h3; exact .inl ⟨i, j, h1, h2, fin⟩
    · subst h5; exact .inr (.inl ⟨a, xs, h1, h2, h3, h4, fin⟩)
    · subst h5; exact .inr (.inr ⟨d, ds, h1, h2, h3, h4, fin⟩)
  · exact p.elim
theorem o_notIn : Op2 K W notInF (fun x y H Q => (fun x y H Q => ∃ i j, x = .str i ∧ y = .str j ∧ Q (.bl (!(!(Builtin.Str.occurrences j i 0 j.length 1).isEmpty))) H) x y H Q ∨ rIn K true x y H Q ∨ rNotInD K x y H Q) := by
  intro σ ρ h H d e x y Q at_ rx ry p
  unfold notInF at p
  split at p
  · rename_i c q
    have fin := p ρ _ H at_.refl is_bl
    rcases inB_is at_ q rx ry with ⟨i, j, h1, h2, h3⟩ | ⟨a, xs, h1, h2, h3, h4, h5⟩ | ⟨d, ds, h1, h2, h3, h4, h5⟩
    · subst h3; exact .inl ⟨i, j, h1, h2, fin⟩
    · subst h5; exact .inr (.inl ⟨a, xs, h1, h2, h3, h4, fin⟩)
    · subst h5; exact .inr (.inr ⟨d, ds, h1, h2, h3, h4, fin⟩)
  · exact p.elim

/-! ### subscripts, slices -/
def ixB (a i : D) (h : PH) : Option D := match i with
  | .int k => (match a with
    | .str x => if x.length ≤ 16777216 then (match atI x.cps.toList k with
      | some c => some (.str ⟨#[c]⟩)
      | none => none) else none
    | a => (match itemsS h a with
      | some ds => atI ds k
      | none => none))
  | _ => none
def ixF : D → D → PH → Res D := fun a i h => match ixB a i h with
  | some d => .ok d h
  | none => .stuck
theorem IsL.atI {ρ : List Addr} {H : Hp} {ds : List D} {xs : List V} {k : Int} {d : D} (h : IsL K ρ H ds xs) (e : atI ds k = some d) : ∃ v, L2.atI xs k = some v ∧ Is K ρ H d v ∧ d.mr ≤ mrL ds := by
  unfold L2.atI at e ⊢
  rw [h.length]
  cases q : ixN ds.length k with
  | none => rw [q] at e; cases e
  | some j =>
    rw [q] at e
    have e' : ds[j]? = some d := e
    obtain ⟨v, e1, e2⟩ := h.get e'
    exact ⟨v, e1, e2, mrL_get e'⟩
theorem o_ix : Op2 K W ixF (rIx K) := by
  intro σ ρ h H d e x y Q at_ rx ry p
  unfold ixF at p
  split at p
  · rename_i r q
    unfold ixB at q
    split at q
    · rename_i k
      split at q
      · rename_i z
        split at q
        · rename_i hz
          split at q
          · rename_i c q2
            cases q
            exact .inr (.inr ⟨z, k, c, rx.1.str, ry.1.int, by rw [sizeLine_eq]; exact hz, q2, p ρ _ H at_.refl is_str⟩)
          · cases q
        · cases q
      · split at q
        · rename_i ds q2
          obtain ⟨a, xs, rfl, s, i, l⟩ := itemsS_is at_ q2 rx
          obtain ⟨v, e1, e2, e3⟩ := i.atI q
          have fin := p ρ v H at_.refl ⟨e2, Nat.le_trans e3 l⟩
          rcases s with s | s
          · exact .inl ⟨a, xs, k, v, rfl, ry.1.int, s, e1, fin⟩
          · exact .inr (.inl ⟨a, xs, k, v, rfl, ry.1.int, s, e1, fin⟩)
        · cases q
    · cases q
  · exact p.elim
def cutD (ds : List D) (lo hi : Option Int) : List D := (ds.drop (HT.sIx ds.length 0 lo)).take (HT.sIx ds.length ds.length hi - HT.sIx ds.length 0 lo)
def slF (a : D) (lo hi : Option Int) (h : PH) : Res D := match a with
  | .tup ds => .ok (.tup (cutD ds lo hi)) h
  | .str x => if x.length ≤ 16777216 then .ok (.str (cutS x lo hi)) h else .stuck
  | a => (match itemsL h a with
    | some ds => newL (cutD ds lo hi) h
    | none => .stuck)
theorem IsL.cut {ρ : List Addr} {H : Hp} {ds : List D} {xs : List V} (h : IsL K ρ H ds xs) (lo hi : Option Int) : IsL K ρ H (cutD ds lo hi) (cutV xs lo hi) := by
  unfold cutD cutV
  rw [h.length]
  exact (h.drop _).take _
theorem mrL_cut {ds : List D} {lo hi : Option Int} : mrL (cutD ds lo hi) ≤ mrL ds := Nat.le_trans mrL_take mrL_drop
def rSlAll (K : KX) : V → Option Int → Option Int → Hp → VK → Prop := fun x lo hi H Q => rSlA K x lo hi H Q ∨ rSlS x lo hi H Q ∨ rSlL K x lo hi H Q
theorem o_sl {σ : L2.St} {ρ : List Addr} {h : PH} {H : Hp} {d : D} {x : V} {lo hi : Option Int} {Q : VK} (at_ : At K ρ h H) (rx : RD K ρ H h.cs.length d x) (p : PostG K W (RD K) σ Q ρ H (slF d lo hi h)) : rSlAll K x lo hi H Q := by
  unfold slF at p
  split at p
  · rename_i ds
    obtain ⟨a, xs, rfl, s, i⟩ := rx.1.tup
    have l : mrL ds ≤ h.cs.length := rx.2
    refine .inl ⟨a, xs, rfl, s, fun ⟨w1, w2⟩ => ?_, fun _ q hq => ?_⟩
    · have e : cutD ds lo hi = ds := by
        unfold cutD
        rw [i.length] at w1 w2
        rw [w1, w2, List.drop_zero, Nat.sub_zero, List.take_length]
      rw [e] at p
      exact p ρ _ H at_.refl rx
    · obtain ⟨e1, e2⟩ := push_tup at_ (i.cut lo hi) (Nat.le_trans mrL_cut l) hq
      exact p ρ _ _ e1 e2
  · split at p
    · rename_i z hz
      exact .inr (.inl ⟨z, rx.1.str, by rw [sizeLine_eq]; exact hz, p ρ _ H at_.refl is_str⟩)
    · exact p.elim
  · split at p
    · rename_i ds q2
      obtain ⟨a, xs, rfl, s, i, l⟩ := itemsL_is at_ q2 rx
      refine .inr (.inr ⟨a, xs, rfl, s, fun q hq => ?_⟩)
      obtain ⟨ρ', e1, e2⟩ := push_lst at_ (i.cut lo hi) (Nat.le_trans mrL_cut l) hq
      exact p ρ' _ _ e1 e2
    · exact p.elim

/-! ### truth -/
def truth (d : D) (h : PH) : Option Bool := match d with
  | .non => some false
  | .bl b => some b
  | .int i => some (i != 0)
  | .str y => if y.length ≤ 16777216 then some ((y.length : Int) != 0) else none
  | .tup ds => some (!ds.isEmpty)
  | d => (match itemsL h d with
    | some ds => some (!ds.isEmpty)
    | none => none)
theorem IsL.empty {ρ : List Addr} {H : Hp} {ds : List D} {xs : List V} (h : IsL K ρ H ds xs) : ds.isEmpty = xs.isEmpty := by
  cases ds with
  | nil => rw [h.nil]; rfl
  | cons d ds => unfold IsL at h; obtain ⟨x, r, rfl, _⟩ := h; rfl
theorem truth_is {ρ : List Addr} {h : PH} {H : Hp} (at_ : At K ρ h H) {d : D} {x : V} {k : Bool} (e : truth d h = some k) (rx : RD K ρ H h.cs.length d x) : TruV K x H k := by
  unfold truth at e
  split at e
  · cases e; rw [rx.1.non]; rfl
  · cases e; rw [rx.1.bl]; rfl
  · cases e; rw [rx.1.int]; rfl
  · split at e
    · rename_i z hz
      cases e; rw [rx.1.str]; exact ⟨by rw [sizeLine_eq]; exact hz, rfl⟩
    · cases e
  · cases e
    obtain ⟨a, xs, rfl, s, i⟩ := rx.1.tup
    exact .inr (.inl ⟨xs, s, by rw [i.empty]⟩)
  · split at e
    · rename_i ds q
      cases e
      obtain ⟨a, xs, rfl, s, i, _⟩ := itemsL_is at_ q rx
      exact .inl ⟨xs, s, by rw [i.empty]⟩
    · cases e
end
end Dy

/-! Tests, subscripts, slices, the walked things, statements. -/
namespace Dy
open PySem PySem.Spec PyProof.Rows L2
section
variable {X : Cx} {W : WJ}
/-! ### tests -/
def tbT (m : EM) : TM := fun e h => (m e h).bind fun d h1 => match d with
  | .bl b => .ok b h1
  | _ => .stuck
def trT (m : EM) : TM := fun e h => (m e h).bind fun d h1 => match truth d h1 with
  | some b => .ok b h1
  | none => .stuck
def andT (t u : TM) : TM := fun e h => (t e h).bind fun b h1 => match b with
  | true => u e h1
  | false => .ok false h1
def orT (t u : TM) : TM := fun e h => (t e h).bind fun b h1 => match b with
  | true => .ok true h1
  | false => u e h1
def notT (t : TM) : TM := fun e h => (t e h).bind fun b h1 => .ok (!b) h1
theorem dt_cmp {a b : Expr} {op : CmpOp} {pos : Pos} {ma mb : EM} {f : D → D → PH → Res D} {r : R2} (ho : OpR X (compareOp op) r) (hf : Op2 (kx X W) W f r) (ha : DE X W a ma) (hb : DE X W b mb) (hm : behindInMarks op b = false) :
    DT X W (.Compare a [op] [b] pos) (tbT (b2E f ma mb)) := pt_imp (pt_cmpR ho ha hb hm) fun σ H Q ⟨ρ, env, h, rl, p⟩ => by
  have q := PostG.bind (R := RD (kx X W)) rl p
  refine t_b2 hf (tG_mono q fun b H1 ⟨ρ1, h1, d, x1, r1, p1⟩ => ?_)
  cases d with
  | bl k => exact ⟨k, r1.1.bl, p1 ρ1 k H1 x1.at.refl rfl⟩
  | _ => exact p1.elim
/-- an expression whose test is its value's truth -/
def plainTest : Expr → Bool
  | .UnaryOp .Not _ _ => false
  | .BoolOp _ _ _ => false
  | .IfExp _ _ _ _ => false
  | .Compare _ _ _ _ => false
  | _ => true
theorem plainTest_is {e : Expr} (h : plainTest e = true) (env : PySem.Env) (whole : Sem Value) : isTrue e env whole = (do let v ← whole; standAt e.pos; holding [v] (truthy v)) := by
  cases e with
  | UnaryOp op a pos => cases op <;> first | rfl | cases h
  | BoolOp _ _ _ => cases h
  | IfExp _ _ _ _ => cases h
  | Compare _ _ _ _ => cases h
  | _ => rfl
theorem dt_truth {a : Expr} {ma : EM} (ha : DE X W a ma) (hp : plainTest a = true) : DT X W a (trT ma) := pt_imp (pt_truth ha fun whole => plainTest_is hp _ whole) fun σ H Q ⟨ρ, env, h, rl, p⟩ => by
  refine tG_mono (PostG.bind (R := RD (kx X W)) rl p) fun b H1 ⟨ρ1, h1, d, x1, r1, p1⟩ => ?_
  cases e : truth d h1 with
  | none => rw [e] at p1; exact p1.elim
  | some k =>
    rw [e] at p1
    exact ⟨k, truth_is x1.at e r1, p1 ρ1 k H1 x1.at.refl rfl⟩
theorem dt_not {a : Expr} {t : TM} {pos : Pos} (ha : DT X W a t) : DT X W (.UnaryOp .Not a pos) (notT t) := pt_imp (pt_not ha) fun σ H Q ⟨ρ, env, h, rl, p⟩ => by
  refine tG_mono (PostG.bind (R := RB) rl p) fun b H1 ⟨ρ1, h1, d, x1, r1, p1⟩ => ?_
  have e : d = b := r1
  subst e
  exact p1 ρ1 _ H1 x1.at.refl rfl
/-- and, or as tests -/
abbrev DW (X : Cx) (W : WJ) (e : Expr) (m : TM) : Prop := PW X e (tT (kx X W) W m)
theorem dw_and1 {a : Expr} {t : TM} {pos : Pos} (ha : DT X W a t) : DW X W (.BoolOp .And [a] pos) t := pw_and1 ha
theorem dw_or1 {a : Expr} {t : TM} {pos : Pos} (ha : DT X W a t) : DW X W (.BoolOp .Or [a] pos) t := pw_or1 ha
theorem dw_and {a b : Expr} {rest : List Expr} {t u : TM} {pos : Pos} (ha : DT X W a t) (hb : DW X W (.BoolOp .And (b :: rest) pos) u) : DW X W (.BoolOp .And (a :: b :: rest) pos) (andT t u) := pw_imp (pw_and ha hb) fun σ H Q ⟨ρ, env, h, rl, p⟩ => by
  refine tG_mono (PostG.bind (R := RB) rl p) fun b H1 ⟨ρ1, h1, d, x1, r1, p1⟩ => ?_
  have e : d = b := r1
  subst e
  cases d with
  | true => exact ⟨ρ1, env, h1, rl.ext x1, p1⟩
  | false => exact p1 ρ1 _ H1 x1.at.refl rfl
theorem dw_or {a b : Expr} {rest : List Expr} {t u : TM} {pos : Pos} (ha : DT X W a t) (hb : DW X W (.BoolOp .Or (b :: rest) pos) u) : DW X W (.BoolOp .Or (a :: b :: rest) pos) (orT t u) := pw_imp (pw_or ha hb) fun σ H Q ⟨ρ, env, h, rl, p⟩ => by
  refine tG_mono (PostG.bind (R := RB) rl p) fun b H1 ⟨ρ1, h1, d, x1, r1, p1⟩ => ?_
  have e : d = b := r1
  subst e
  cases d with
  | true => exact p1 ρ1 _ H1 x1.at.refl rfl
  | false => exact ⟨ρ1, env, h1, rl.ext x1, p1⟩
/-! ### and, or, not, if as values -/
def andE (a b : EM) : EM := fun e h => (a e h).bind fun d h1 => match truth d h1 with
  | some true => b e h1
  | some false => .ok d h1
  | none => .stuck
def orE (a b : EM) : EM := fun e h => (a e h).bind fun d h1 => match truth d h1 with
  | some true => .ok d h1
  | some false => b e h1
  | none => .stuck
def notF (d : D) (h : PH) : Res D := match truth d h with
  | some b => .ok (.bl (!b)) h
  | none => .stuck
theorem de_one {op : BoolOp} {a : Expr} {m : EM} {pos : Pos} (ha : DE X W a m) : DE X W (.BoolOp op [a] pos) m := pe_one ha
theorem de_and {a b : Expr} {rest : List Expr} {m n : EM} {pos : Pos} (ha : DE X W a m) (hb : DE X W (.BoolOp .And (b :: rest) pos) n) : DE X W (.BoolOp .And (a :: b :: rest) pos) (andE m n) := pe_imp (pe_andT ha hb) fun σ H Q ⟨ρ, env, h, rl, p⟩ => by
  refine tG_mono (PostG.bind (R := RD (kx X W)) rl p) fun b H1 ⟨ρ1, h1, d, x1, r1, p1⟩ => ?_
  cases e : truth d h1 with
  | none => rw [e] at p1; exact p1.elim
  | some k =>
    rw [e] at p1
    refine ⟨k, truth_is x1.at e r1, ?_⟩
    cases k with
    | true => exact iteT ⟨ρ1, env, h1, rl.ext x1, p1⟩
    | false => exact iteF (p1 ρ1 _ H1 x1.at.refl r1)
theorem de_or {a b : Expr} {rest : List Expr} {m n : EM} {pos : Pos} (ha : DE X W a m) (hb : DE X W (.BoolOp .Or (b :: rest) pos) n) : DE X W (.BoolOp .Or (a :: b :: rest) pos) (orE m n) := pe_imp (pe_orT ha hb) fun σ H Q ⟨ρ, env, h, rl, p⟩ => by
  refine tG_mono (PostG.bind (R := RD (kx X W)) rl p) fun b H1 ⟨ρ1, h1, d, x1, r1, p1⟩ => ?_
  cases e : truth d h1 with
  | none => rw [e] at p1; exact p1.elim
  | some k =>
    rw [e] at p1
    refine ⟨k, truth_is x1.at e r1, ?_⟩
    cases k with
    | true => exact iteT (p1 ρ1 _ H1 x1.at.refl r1)
    | false => exact iteF ⟨ρ1, env, h1, rl.ext x1, p1⟩
theorem de_not {a : Expr} {m : EM} {pos : Pos} (ha : DE X W a m) : DE X W (.UnaryOp .Not a pos) (u1E notF m) := pe_imp (pe_notT ha) fun σ H Q ⟨ρ, env, h, rl, p⟩ => by
  refine tG_mono (PostG.bind (R := RD (kx X W)) rl p) fun b H1 ⟨ρ1, h1, d, x1, r1, p1⟩ => ?_
  have p1 : PostG (kx X W) W (RD (kx X W)) σ Q ρ1 H1 (match truth d h1 with | some b => .ok (.bl (!b)) h1 | none => .stuck) := p1
  cases e : truth d h1 with
  | none => rw [e] at p1; exact p1.elim
  | some k =>
    rw [e] at p1
    exact ⟨k, truth_is x1.at e r1, p1 ρ1 _ H1 x1.at.refl is_bl⟩
def ifE (t : TM) (a b : EM) : EM := fun e h => (t e h).bind fun c h1 => match c with
  | true => a e h1
  | false => b e h1
theorem de_if {c a b : Expr} {t : TM} {m n : EM} {pos : Pos} (hc : DT X W c t) (ha : DE X W a m) (hb : DE X W b n) : DE X W (.IfExp c a b pos) (ifE t m n) := pe_imp (pe_ifExp hc ha hb) fun σ H Q ⟨ρ, env, h, rl, p⟩ => by
  refine tG_mono (PostG.bind (R := RB) rl p) fun b H1 ⟨ρ1, h1, d, x1, r1, p1⟩ => ?_
  have e : d = b := r1
  subst e
  cases d with
  | true => exact iteT ⟨ρ1, env, h1, rl.ext x1, p1⟩
  | false => exact iteF ⟨ρ1, env, h1, rl.ext x1, p1⟩
/-! ### a < b < c -/
def chE (f g : D → D → PH → Res D) (a b c : EM) : EM := fun e h => (a e h).bind fun x h1 => (b e h1).bind fun y h2 => (f x y h2).bind fun z h3 => match z with
  | .bl true => (c e h3).bind fun w h4 => g y w h4
  | .bl false => .ok (.bl false) h3
  | _ => .stuck
/-- as Op2, the operation is a step of more -/
theorem Op2.step {K : KX} {f : D → D → PH → Res D} {r : R2} (hf : Op2 K W f r) {σ : L2.St} {ρ : List Addr} {h : PH} {H : Hp} {d e : D} {x y : V} {Q : VK} (at_ : At K ρ h H) (rx : RD K ρ H h.cs.length d x) (ry : RD K ρ H h.cs.length e y)
    {k : D → PH → Res D} (p : PostG K W (RD K) σ Q ρ H ((f d e h).bind k)) : r x y H fun z H1 => ∃ ρ1 h1 a, Ext K ρ H h1 ρ1 H1 ∧ RD K ρ1 H1 h1.cs.length a z ∧ PostG K W (RD K) σ Q ρ1 H1 (k a h1) := by
  refine hf σ ρ h H d e x y _ at_ rx ry ?_
  cases q : f d e h with
  | stuck => rw [q] at p; exact p
  | exc c h1 => rw [q] at p; exact p
  | ok a h1 =>
    rw [q] at p
    exact fun ρ' b H' x rb => ⟨ρ', h1, a, x, rb, p.shift x⟩
theorem t_ch {K : KX} {f g : D → D → PH → Res D} {r r' : R2} (hf : Op2 K W f r) (hg : Op2 K W g r') {ma mb mc : EM} {σ : L2.St} {H : Hp} {Q : VK} (t : tE K W (chE f g ma mb mc) σ H Q) :
    tE K W ma σ H fun x H1 => tE K W mb σ H1 fun y H2 => r x y H2 fun z H3 => ∃ k, z = .bl k ∧ if k = true then tE K W mc σ H3 (fun w H4 => r' y w H4 Q) else Q (.bl false) H3 := by
  obtain ⟨ρ, env, h, rl, p⟩ := t
  refine tG_mono (PostG.bind (R := RD K) rl p) fun b H1 ⟨ρ1, h1, a1, x1, ra1, p1⟩ => ?_
  have rl1 := rl.ext x1
  refine tG_mono (PostG.bind (R := RD K) rl1 p1) fun b2 H2 ⟨ρ2, h2, a2, x2, ra2, p2⟩ => ?_
  have rl2 := rl1.ext x2
  have q := hf.step x2.at (ra1.ext x2 rl1.len) ra2 p2
  refine hf σ ρ2 h2 H2 a1 a2 b b2 _ x2.at (ra1.ext x2 rl1.len) ra2 ?_
  cases q3 : f a1 a2 h2 with
  | stuck => rw [q3] at p2; exact p2
  | exc c h4 => rw [q3] at p2; exact p2
  | ok a3 h3 =>
    rw [q3] at p2
    intro ρ3 z H3 x3 rz
    have p3 := p2.shift x3
    have rl3 := rl2.ext x3
    dsimp only [Res.bind] at p3
    split at p3
    · refine ⟨true, rz.1.bl, iteT ?_⟩
      refine tG_mono (PostG.bind (R := RD K) rl3 p3) fun b4 H4 ⟨ρ4, h4, a4, x4, ra4, p4⟩ => ?_
      exact hg σ ρ4 h4 H4 a2 a4 b2 b4 Q x4.at ((ra2.ext x3 rl2.len).ext x4 rl3.len) ra4 p4
    · exact ⟨false, rz.1.bl, iteF (p3 ρ3 _ H3 x3.at.refl is_bl)⟩
    · exact p3.elim
theorem de_ch {a b c : Expr} {op op' : CmpOp} {pos : Pos} {ma mb mc : EM} {f g : D → D → PH → Res D} {r r' : R2} (ho : OpR X (compareOp op) r) (ho' : OpR X (compareOp op') r') (hf : Op2 (kx X W) W f r) (hg : Op2 (kx X W) W g r')
    (ha : DE X W a ma) (hb : DE X W b mb) (hc : DE X W c mc) (h1 : behindInMarks op' c = false) : DE X W (.Compare a [op, op'] [b, c] pos) (chE f g ma mb mc) :=
  pe_imp (pe_chain ho ho' ha hb hc h1) fun σ H Q t => t_ch hf hg t
theorem dt_ch {a b c : Expr} {op op' : CmpOp} {pos : Pos} {ma mb mc : EM} {f g : D → D → PH → Res D} {r r' : R2} (ho : OpR X (compareOp op) r) (ho' : OpR X (compareOp op') r') (hf : Op2 (kx X W) W f r) (hg : Op2 (kx X W) W g r')
    (ha : DE X W a ma) (hb : DE X W b mb) (hc : DE X W c mc) (h1 : behindInMarks op' c = false) : DT X W (.Compare a [op, op'] [b, c] pos) (tbT (chE f g ma mb mc)) :=
  pt_imp (pt_chain ho ho' ha hb hc h1) fun σ H Q ⟨ρ, env, h, rl, p⟩ => by
    have q := PostG.bind (R := RD (kx X W)) rl p
    refine t_ch hf hg (tG_mono q fun b H1 ⟨ρ1, h1, d, x1, r1, p1⟩ => ?_)
    cases d with
    | bl k => exact ⟨k, r1.1.bl, p1 ρ1 k H1 x1.at.refl rfl⟩
    | _ => exact p1.elim
/-! ### subscripts, slices -/
def isSlice : Expr → Bool
  | .Slice _ _ _ _ => true
  | _ => false
theorem plainIx_of {e : Expr} (h : isSlice e = false) : PlainIx e := fun o i => by
  cases e <;> first | rfl | cases h
theorem de_ix {a i : Expr} {m n : EM} {pos : Pos} (hs : isSlice i = false) (ha : DE X W a m) (hi : DE X W i n) : DE X W (.Subscript a i pos) (b2E ixF m n) := pe_imp (pe_ix ix_seq ha hi (plainIx_of hs)) fun σ H Q t => t_b2 o_ix t
end
end Dy

/-! Slices, calls of built-ins, methods of lists and texts, calls of defs. -/
namespace Dy
open PySem PySem.Spec PyProof.Rows L2
/-! ### slices -/
abbrev OM := Env → PH → Res (Option Int)
def RO : List Addr → Hp → Nat → Option Int → Option Int → Prop := fun _ _ _ a b => a = b
abbrev DO (X : Cx) (W : WJ) (e : Option Expr) (m : OM) : Prop := PO X e (tG (kx X W) W RO m)
def noO : OM := fun _ h => .ok none h
def someO (m : EM) : OM := fun e h => (m e h).bind fun d h1 => match d with
  | .int i => .ok (some i) h1
  | _ => .stuck
section
variable {X : Cx} {W : WJ}
theorem po_imp {e : Option Expr} {t t' : TO} (h : PO X e t) (k : ∀ σ H Q, t' σ H Q → t σ H Q) : PO X e t' := ⟨fun pins s σ H Q I q => h.run pins s σ H Q I (k σ H Q q)⟩
theorem do_none : DO X W none noO := po_imp po_none fun σ H Q ⟨ρ, env, h, rl, p⟩ => p ρ none H rl.refl rfl
theorem do_some {e : Expr} {m : EM} (h : DE X W e m) : DO X W (some e) (someO m) := po_imp (po_some h) fun σ H Q ⟨ρ, env, h, rl, p⟩ => by
  refine tG_mono (PostG.bind (R := RD (kx X W)) rl p) fun b H1 ⟨ρ1, h1, d, x1, r1, p1⟩ => ?_
  cases d with
  | int i => exact ⟨i, r1.1.int, p1 ρ1 _ H1 x1.at.refl rfl⟩
  | _ => exact p1.elim
def slE (a : EM) (lo hi : OM) : EM := fun e h => (a e h).bind fun d h1 => (lo e h1).bind fun l h2 => (hi e h2).bind fun u h3 => slF d l u h3
theorem sl_all : SlR X (rSlAll (kx X W)) := sl_tupA.or (sl_str.or sl_list)
theorem de_sl {a : Expr} {lo hi : Option Expr} {m : EM} {l u : OM} {p2 pos : Pos} (ha : DE X W a m) (hl : DO X W lo l) (hu : DO X W hi u) : DE X W (.Subscript a (.Slice lo hi none p2) pos) (slE m l u) :=
  pe_imp (pe_slice sl_all ha hl hu) fun σ H Q ⟨ρ, env, h, rl, p⟩ => by
    refine tG_mono (PostG.bind (R := RD (kx X W)) rl p) fun b H1 ⟨ρ1, h1, d1, x1, r1, p1⟩ => ?_
    have rl1 := rl.ext x1
    refine tG_mono (PostG.bind (R := RO) rl1 p1) fun l' H2 ⟨ρ2, h2, d2, x2, r2, p2⟩ => ?_
    have rl2 := rl1.ext x2
    refine tG_mono (PostG.bind (R := RO) rl2 p2) fun u' H3 ⟨ρ3, h3, d3, x3, r3, p3⟩ => ?_
    have e2 : d2 = l' := r2
    have e3 : d3 = u' := r3
    subst e2; subst e3
    exact o_sl x3.at ((r1.ext x2 rl1.len).ext x3 rl2.len) p3
/-- xs[::-1] -/
def revF (d : D) (h : PH) : Res D := match itemsL h d with
  | some ds => newL ds.reverse h
  | none => .stuck
theorem IsL.rev {K : KX} {ρ : List Addr} {H : Hp} : ∀ {ds : List D} {xs : List V}, IsL K ρ H ds xs → IsL K ρ H ds.reverse xs.reverse
  | [], xs, h => by rw [h.nil]; show IsL K ρ H [] []; unfold IsL; rfl
  | d :: ds, xs, h => by
    unfold IsL at h
    obtain ⟨x, r, rfl, h1, h2⟩ := h
    rw [List.reverse_cons, List.reverse_cons]
    refine (IsL.rev h2).append ?_
    unfold IsL
    exact ⟨x, [], rfl, h1, by unfold IsL; rfl⟩
theorem mrL_rev : ∀ {ds : List D}, mrL ds.reverse = mrL ds
  | [] => rfl
  | d :: ds => by
    rw [List.reverse_cons, mrL_append, mrL_rev]
    show max (mrL ds) (max d.mr 0) = max d.mr (mrL ds)
    omega
theorem de_rev {e : Expr} {m : EM} {k : Nat} {p1 p2 p3 pos : Pos} (ha : DE X W e m) : DE X W (.Subscript e (.Slice none none (some (.UnaryOp .USub (.Constant (.int 1) k p1) p2)) p3) pos) (u1E revF m) :=
  pe_imp (pe_revL ha) fun σ H Q t => by
    refine t_u1 (r := fun x H1 Q => ∃ a xs, x = .ref a ∧ SqL (kx X W) H1 a xs ∧ ∀ p, H1 p = none → Q (.ref p) (upd H1 p (.lst xs.reverse))) ?_ t
    intro σ ρ h H d x Q at_ rx p
    unfold revF at p
    split at p
    · rename_i ds q
      obtain ⟨a, xs, rfl, s, i, l⟩ := itemsL_is at_ q rx
      refine ⟨a, xs, rfl, s, fun q hq => ?_⟩
      obtain ⟨ρ', e1, e2⟩ := push_lst at_ i.rev (by rw [mrL_rev]; exact l) hq
      exact p ρ' _ _ e1 e2
    · exact p.elim

/-! ### built-ins -/
variable {K : KX}
/-- f upon one argument, two -/
def f1 (f : D → PH → Res D) : List D → PH → Res D := fun ds h => match ds with
  | [d] => f d h
  | _ => .stuck
def f2 (f : D → D → PH → Res D) : List D → PH → Res D := fun ds h => match ds with
  | [d, e] => f d e h
  | _ => .stuck
theorem opn_1 {f : D → PH → Res D} {r : V → Hp → VK → Prop} (h : Op1 K W f r) : OpN K W (f1 f) (fun xs H Q => ∃ x, xs = [x] ∧ r x H Q) := by
  intro σ ρ h' H ds xs Q at_ rl p
  unfold f1 at p
  split at p
  · rename_i d
    have i := rl.1
    unfold IsL at i
    obtain ⟨x, r, rfl, i1, i2⟩ := i
    rw [i2.nil]
    have l : mrL [d] ≤ h'.cs.length := rl.2
    unfold mrL at l
    exact ⟨x, rfl, h σ ρ h' H d x Q at_ ⟨i1, by omega⟩ p⟩
  · exact p.elim
theorem opn_2 {f : D → D → PH → Res D} {r : R2} (h : Op2 K W f r) : OpN K W (f2 f) (fun xs H Q => ∃ x y, xs = [x, y] ∧ r x y H Q) := by
  intro σ ρ h' H ds xs Q at_ rl p
  unfold f2 at p
  split at p
  · rename_i d e
    have i := rl.1
    unfold IsL at i
    obtain ⟨x, r, rfl, i1, i2⟩ := i
    unfold IsL at i2
    obtain ⟨y, r2, rfl, i3, i4⟩ := i2
    rw [i4.nil]
    have l : mrL [d, e] ≤ h'.cs.length := rl.2
    unfold mrL at l
    unfold mrL at l
    exact ⟨x, y, rfl, h σ ρ h' H d e x y Q at_ ⟨i1, by omega⟩ ⟨i3, by omega⟩ p⟩
  · exact p.elim
/-- a call of a built-in by its name -/
theorem de_callB {x : Str} {id : String} {p pos : Pos} {e : Expr} {es : List Expr} {m : AM} {f : List D → PH → Res D} {r : List V → Hp → VK → Prop} (hc : CallR X (.builtin id) r) (hf : OpN (kx X W) W f r) (hg : Gl X x) (hm : X.mg x = none)
    (hv : bootBuiltins x = some (.builtin id)) (ha : DA X W (e :: es) m) (hn : x ≠ "__name__" := by decide) (hdb : (x == ("__debug__" : Str)) = false := by decide)
    (he : starEach (e :: es) X.env = (false, eval e X.env) :: starEach es X.env) (hpl : (backTo pos (starEach es X.env)).any (·.1) = false) : DE X W (.Call (.Name x p) (e :: es) [] pos) (nA f m) :=
  pe_imp (pe_callB hc hg hm hv ha hn hdb he hpl) fun σ H Q t => t_nA hf t
theorem de_callTy {x : Str} {T : String} {p pos : Pos} {e : Expr} {es : List Expr} {m : AM} {f : List D → PH → Res D} {r : List V → Hp → VK → Prop} (hc : CallR X (.type T) r) (hf : OpN (kx X W) W f r) (hg : Gl X x) (hm : X.mg x = none)
    (hv : bootBuiltins x = some (.type T)) (ha : DA X W (e :: es) m) (hn : x ≠ "__name__" := by decide) (hdb : (x == ("__debug__" : Str)) = false := by decide)
    (he : starEach (e :: es) X.env = (false, eval e X.env) :: starEach es X.env) (hpl : (backTo pos (starEach es X.env)).any (·.1) = false) : DE X W (.Call (.Name x p) (e :: es) [] pos) (nA f m) :=
  pe_imp (pe_callTy hc hg hm hv ha hn hdb he hpl) fun σ H Q t => t_nA hf t
/-- no argument is starred -/
def noStars : List Expr → Bool
  | [] => true
  | e :: es => !isStar e && noStars es
theorem noStars_any : ∀ {es : List Expr} (h : noStars es = true) (pos : Pos) (env : PySem.Env), (backTo pos (starEach es env)).any (·.1) = false
  | [], _, _, _ => rfl
  | e :: es, h, pos, env => by
    unfold noStars at h
    rw [Bool.and_eq_true] at h
    have h1 : isStar e = false := by have := h.1; cases q : isStar e <;> simp_all
    rw [star_no h1 es env]
    show (false || (backTo pos (starEach es env)).any (·.1)) = false
    rw [noStars_any h.2 pos env]; rfl
theorem noStars_head {e : Expr} {es : List Expr} (h : noStars (e :: es) = true) : isStar e = false ∧ noStars es = true := by
  unfold noStars at h
  rw [Bool.and_eq_true] at h
  exact ⟨by have := h.1; cases q : isStar e <;> simp_all, h.2⟩

/-! len -/
def lenF (d : D) (h : PH) : Res D := match d with
  | .str z => if z.length ≤ 16777216 then .ok (.int z.length) h else .stuck
  | d => (match itemsS h d with
    | some ds => .ok (.int ds.length) h
    | none => .stuck)
theorem o_len : Op1 K W lenF (fun x H Q => (∃ p ys, x = .ref p ∧ (SqL K H p ys ∨ SqT K H p ys) ∧ Q (.int ys.length) H) ∨ ∃ z, x = .str z ∧ z.length ≤ sizeLine ∧ Q (.int z.length) H) := by
  intro σ ρ h H d x Q at_ rx p
  unfold lenF at p
  split at p
  · split at p
    · rename_i z hz
      exact .inr ⟨z, rx.1.str, by rw [sizeLine_eq]; exact hz, p ρ _ H at_.refl is_int⟩
    · exact p.elim
  · split at p
    · rename_i ds q
      obtain ⟨a, xs, rfl, s, i, l⟩ := itemsS_is at_ q rx
      have fin := p ρ _ H at_.refl is_int
      rw [← i.length] at fin
      exact .inl ⟨a, xs, rfl, s, fin⟩
    · exact p.elim
theorem c_len : CallR X (.builtin "len") (fun xs H Q => ∃ x, xs = [x] ∧ ((∃ p ys, x = .ref p ∧ (SqL (kx X W) H p ys ∨ SqT (kx X W) H p ys) ∧ Q (.int ys.length) H) ∨ ∃ z, x = .str z ∧ z.length ≤ sizeLine ∧ Q (.int z.length) H)) := by
  intro pins s σ H xs us Q I r h
  obtain ⟨x, rfl, h⟩ := h
  rcases h with ⟨p, ys, rfl, s', q⟩ | ⟨z, rfl, hz, q⟩
  · exact call_len_seq pins s σ H _ us Q I r ⟨p, ys, rfl, s', q⟩
  · exact call_len_str pins s σ H _ us Q I r ⟨z, rfl, hz, q⟩
/-! abs, max, min of two, int, bool, str, ord -/
def absF (d : D) (h : PH) : Res D := match d with
  | .int i => .ok (.int (if i < 0 then -i else i)) h
  | _ => .stuck
theorem c_abs : CallR X (.builtin "abs") (fun xs H Q => ∃ x, xs = [x] ∧ ∃ i, x = .int i ∧ Q (.int (if i < 0 then -i else i)) H) := by
  intro pins s σ H xs us Q I r h
  obtain ⟨x, rfl, i, rfl, q⟩ := h
  exact call_abs pins s σ H _ us Q I r ⟨i, rfl, q⟩
theorem o_abs : Op1 K W absF (fun x H Q => ∃ i, x = .int i ∧ Q (.int (if i < 0 then -i else i)) H) := by
  intro σ ρ h H d x Q at_ rx p
  unfold absF at p
  split at p
  · exact ⟨_, rx.1.int, p ρ _ H at_.refl is_int⟩
  · exact p.elim
def max2F : D → D → PH → Res D := stepI fun i j => some (.int (if j > i then j else i))
def min2F : D → D → PH → Res D := stepI fun i j => some (.int (if j < i then j else i))
theorem o_max2 : Op2 K W max2F (rI0 fun i j => .int (if j > i then j else i)) := op2_int0 fun i j d q _ _ _ => by cases q; exact is_int
theorem o_min2 : Op2 K W min2F (rI0 fun i j => .int (if j < i then j else i)) := op2_int0 fun i j d q _ _ _ => by cases q; exact is_int
theorem c_max2 (hc : X.calm = true) : CallR X (.builtin "max") (fun xs H Q => ∃ x y, xs = [x, y] ∧ (rI0 fun i j => .int (if j > i then j else i)) x y H Q) := by
  intro pins s σ H xs us Q I r h
  obtain ⟨x, y, rfl, i, j, rfl, rfl, q⟩ := h
  exact call_max2 hc pins s σ H _ us Q I r ⟨i, j, rfl, q⟩
theorem c_min2 (hc : X.calm = true) : CallR X (.builtin "min") (fun xs H Q => ∃ x y, xs = [x, y] ∧ (rI0 fun i j => .int (if j < i then j else i)) x y H Q) := by
  intro pins s σ H xs us Q I r h
  obtain ⟨x, y, rfl, i, j, rfl, rfl, q⟩ := h
  exact call_min2 hc pins s σ H _ us Q I r ⟨i, j, rfl, q⟩
def intF (d : D) (h : PH) : Res D := match d with
  | .int i => .ok (.int i) h
  | .bl k => .ok (.int (if k then 1 else 0)) h
  | .str x => (match PySem.intText? x with
    | some n => if x.length ≤ 640 then .ok (.int n) h else .stuck
    | none => .stuck)
  | _ => .stuck
theorem o_int : Op1 K W intF (fun x H Q => (∃ i, x = .int i ∧ Q (.int i) H) ∨ (∃ k, x = .bl k ∧ Q (.int (if k then 1 else 0)) H) ∨ ∃ a n, x = .str a ∧ PySem.intText? a = some n ∧ a.length ≤ 640 ∧ Q (.int n) H) := by
  intro σ ρ h H d x Q at_ rx p
  unfold intF at p
  split at p
  · exact .inl ⟨_, rx.1.int, p ρ _ H at_.refl is_int⟩
  · exact .inr (.inl ⟨_, rx.1.bl, p ρ _ H at_.refl is_int⟩)
  · split at p
    · rename_i a n e
      split at p
      · rename_i c
        exact .inr (.inr ⟨_, n, rx.1.str, e, c, p ρ _ H at_.refl is_int⟩)
      · exact p.elim
    · exact p.elim
  · exact p.elim
theorem c_int : CallR X (.type "int") (fun xs H Q => ∃ x, xs = [x] ∧ ((∃ i, x = .int i ∧ Q (.int i) H) ∨ (∃ k, x = .bl k ∧ Q (.int (if k then 1 else 0)) H) ∨ ∃ a n, x = .str a ∧ PySem.intText? a = some n ∧ a.length ≤ 640 ∧ Q (.int n) H)) := by
  intro pins s σ H xs us Q I r h
  obtain ⟨x, rfl, h⟩ := h
  rcases h with ⟨i, rfl, q⟩ | ⟨i, rfl, q⟩ | ⟨a, n, rfl, h1, h2, q⟩
  · exact call_int1 pins s σ H _ us Q I r (.inl ⟨i, rfl, q⟩)
  · exact call_int1 pins s σ H _ us Q I r (.inr ⟨i, rfl, q⟩)
  · exact call_int_str pins s σ H _ us Q I r ⟨a, n, rfl, h1, h2, q⟩
def ordF (d : D) (h : PH) : Res D := match d with
  | .str x => if x.length = 1 then .ok (.int (x.cps.getD 0 0 : Nat)) h else .stuck
  | _ => .stuck
theorem o_ord : Op1 K W ordF (fun x H Q => ∃ a, x = .str a ∧ a.length = 1 ∧ Q (.int (a.cps.getD 0 0 : Nat)) H) := by
  intro σ ρ h H d x Q at_ rx p
  unfold ordF at p
  split at p
  · split at p
    · rename_i c
      exact ⟨_, rx.1.str, c, p ρ _ H at_.refl is_int⟩
    · exact p.elim
  · exact p.elim
theorem c_ord : CallR X (.builtin "ord") (fun xs H Q => ∃ x, xs = [x] ∧ ∃ a, x = .str a ∧ a.length = 1 ∧ Q (.int (a.cps.getD 0 0 : Nat)) H) := by
  intro pins s σ H xs us Q I r h
  obtain ⟨x, rfl, a, rfl, c, q⟩ := h
  exact call_ord pins s σ H _ us Q I r ⟨a, rfl, c, q⟩
/-! fields of an f-string -/
def fmtF (d : D) (h : PH) : Res D := match d with
  | .int i => if i.natAbs.log2 < 1920 then .ok (.str (toString i)) h else .stuck
  | .str y => if y.length ≤ 16777216 then .ok (.str y) h else .stuck
  | _ => .stuck
theorem o_fmt : Op1 K W fmtF (fun x H Q => (∃ y : Str, x = .str y ∧ y.length ≤ sizeLine ∧ Q (.str y) H) ∨ ∃ i : Int, x = .int i ∧ i.natAbs.log2 < 1920 ∧ Q (.str (toString i)) H) := by
  intro σ ρ h H d x Q at_ rx p
  unfold fmtF at p
  split at p
  · split at p
    · rename_i i c
      exact .inr ⟨_, rx.1.int, c, p ρ _ H at_.refl is_str⟩
    · exact p.elim
  · split at p
    · rename_i c
      exact .inl ⟨_, rx.1.str, by rw [sizeLine_eq]; exact c, p ρ _ H at_.refl is_str⟩
    · exact p.elim
  · exact p.elim
def strF (d : D) (h : PH) : Res D := match d with
  | .int i => if i.natAbs.log2 < 1920 then .ok (.str (toString i)) h else .stuck
  | _ => .stuck
theorem o_str : Op1 K W strF (fun x H Q => ∃ i, x = .int i ∧ i.natAbs.log2 < 1920 ∧ Q (.str (toString i)) H) := by
  intro σ ρ h H d x Q at_ rx p
  unfold strF at p
  split at p
  · split at p
    · rename_i i c
      exact ⟨_, rx.1.int, c, p ρ _ H at_.refl is_str⟩
    · exact p.elim
  · exact p.elim
theorem c_str : CallR X (.type "str") (fun xs H Q => ∃ x, xs = [x] ∧ ∃ i, x = .int i ∧ i.natAbs.log2 < 1920 ∧ Q (.str (toString i)) H) := by
  intro pins s σ H xs us Q I r h
  obtain ⟨x, rfl, i, rfl, c, q⟩ := h
  exact call_str_int pins s σ H _ us Q I r ⟨i, rfl, c, q⟩
/-! list(x), tuple(x) -/
def listF (d : D) (h : PH) : Res D := match itemsS h d with
  | some ds => newL ds h
  | none => .stuck
theorem o_list : Op1 K W listF (fun x H Q => ∃ p ys, x = .ref p ∧ (SqL K H p ys ∨ SqT K H p ys) ∧ ∀ l, H l = none → Q (.ref l) (upd H l (.lst ys))) := by
  intro σ ρ h H d x Q at_ rx p
  unfold listF at p
  split at p
  · rename_i ds q
    obtain ⟨a, xs, rfl, s, i, l⟩ := itemsS_is at_ q rx
    refine ⟨a, xs, rfl, s, fun q hq => ?_⟩
    obtain ⟨ρ', e1, e2⟩ := push_lst at_ i l hq
    exact p ρ' _ _ e1 e2
  · exact p.elim
theorem c_list : CallR X (.type "list") (fun xs H Q => ∃ x, xs = [x] ∧ ∃ p ys, x = .ref p ∧ (SqL (kx X W) H p ys ∨ SqT (kx X W) H p ys) ∧ ∀ l, H l = none → Q (.ref l) (upd H l (.lst ys))) := by
  intro pins s σ H xs us Q I r h
  obtain ⟨x, rfl, p, ys, rfl, s', q⟩ := h
  exact call_list_of pins s σ H _ us Q I r ⟨p, ys, rfl, s', q⟩
def tupleF (d : D) (h : PH) : Res D := match itemsS h d with
  | some ds => .ok (.tup ds) h
  | none => .stuck
theorem o_tuple : Op1 K W tupleF (fun x H Q => ∃ p ys, x = .ref p ∧ ((SqL K H p ys ∧ ∀ l, H l = none → Q (.ref l) (upd H l (.tup ys))) ∨ (SqT K H p ys ∧ Q (.ref p) H))) := by
  intro σ ρ h H d x Q at_ rx p
  unfold tupleF at p
  split at p
  · rename_i ds q
    cases d with
    | tup es =>
      have e : some es = some ds := q
      cases e
      obtain ⟨a, xs, rfl, s, i⟩ := rx.1.tup
      exact ⟨a, xs, rfl, .inr ⟨s, p ρ _ H at_.refl rx⟩⟩
    | frl es =>
      obtain ⟨a, xs, rfl, s, i, l⟩ := itemsL_is (d := .frl es) at_ q rx
      refine ⟨a, xs, rfl, .inl ⟨s, fun q hq => ?_⟩⟩
      obtain ⟨e1, e2⟩ := push_tup at_ i l hq
      exact p ρ _ _ e1 e2
    | ref es =>
      obtain ⟨a, xs, rfl, s, i, l⟩ := itemsL_is (d := .ref es) at_ q rx
      refine ⟨a, xs, rfl, .inl ⟨s, fun q hq => ?_⟩⟩
      obtain ⟨e1, e2⟩ := push_tup at_ i l hq
      exact p ρ _ _ e1 e2
    | _ => cases q
  · exact p.elim
theorem c_tuple : CallR X (.type "tuple") (fun xs H Q => ∃ x, xs = [x] ∧ ∃ p ys, x = .ref p ∧ ((SqL (kx X W) H p ys ∧ ∀ l, H l = none → Q (.ref l) (upd H l (.tup ys))) ∨ (SqT (kx X W) H p ys ∧ Q (.ref p) H))) := by
  intro pins s σ H xs us Q I r h
  obtain ⟨x, rfl, p, ys, rfl, q⟩ := h
  exact call_tuple_of pins s σ H _ us Q I r ⟨p, ys, rfl, q⟩
/-! sum, max, min, all, any, sorted of a list -/
def sumF (d : D) (h : PH) : Res D := match itemsL h d with
  | some ds => (match intsOf ds with
    | some ns => .ok (.int ns.sum) h
    | none => .stuck)
  | none => .stuck
theorem o_sum : Op1 K W sumF (fun x H Q => ∃ (a : Addr) (ns : List Int), x = .ref a ∧ SqL K H a (ns.map V.int) ∧ Q (.int ns.sum) H) := by
  intro σ ρ h H d x Q at_ rx p
  unfold sumF at p
  split at p
  · rename_i ds q
    split at p
    · rename_i ns q2
      obtain ⟨a, xs, rfl, s, i, l⟩ := itemsL_is at_ q rx
      have e := intsOf_is q2 i
      subst e
      exact ⟨a, ns, rfl, s, p ρ _ H at_.refl is_int⟩
    · exact p.elim
  · exact p.elim
theorem c_sum (hc : X.calm = true) : CallR X (.builtin "sum") (fun xs H Q => ∃ x, xs = [x] ∧ ∃ (a : Addr) (ns : List Int), x = .ref a ∧ SqL (kx X W) H a (ns.map V.int) ∧ Q (.int ns.sum) H) := by
  intro pins s σ H xs us Q I r h
  obtain ⟨x, rfl, a, ns, rfl, q⟩ := h
  exact cr_sum hc pins s σ H _ us Q I r ⟨a, ns, rfl, q⟩
/-- the greatest, the least -/
def maxI : List Int → Int
  | [] => 0
  | [n] => n
  | n :: m :: r => let k := maxI (m :: r); if k > n then k else n
def minI : List Int → Int
  | [] => 0
  | [n] => n
  | n :: m :: r => let k := minI (m :: r); if k < n then k else n
theorem maxI_spec : ∀ {ns : List Int}, 0 < ns.length → maxI ns ∈ ns ∧ ∀ y ∈ ns, y ≤ maxI ns
  | [n], _ => ⟨by simp [maxI], fun y hy => by simp at hy; subst hy; exact Int.le_refl _⟩
  | n :: m :: r, _ => by
    obtain ⟨h1, h2⟩ := maxI_spec (ns := m :: r) (by simp)
    show (if maxI (m :: r) > n then maxI (m :: r) else n) ∈ n :: m :: r ∧ ∀ y ∈ n :: m :: r, y ≤ if maxI (m :: r) > n then maxI (m :: r) else n
    split
    · refine ⟨List.mem_cons_of_mem _ h1, fun y hy => ?_⟩
      rcases List.mem_cons.mp hy with e | e
      · omega
      · exact h2 y e
    · refine ⟨List.mem_cons_self, fun y hy => ?_⟩
      rcases List.mem_cons.mp hy with e | e
      · omega
      · have := h2 y e; omega
theorem minI_spec : ∀ {ns : List Int}, 0 < ns.length → minI ns ∈ ns ∧ ∀ y ∈ ns, minI ns ≤ y
  | [n], _ => ⟨by simp [minI], fun y hy => by simp at hy; subst hy; exact Int.le_refl _⟩
  | n :: m :: r, _ => by
    obtain ⟨h1, h2⟩ := minI_spec (ns := m :: r) (by simp)
    show (if minI (m :: r) < n then minI (m :: r) else n) ∈ n :: m :: r ∧ ∀ y ∈ n :: m :: r, (if minI (m :: r) < n then minI (m :: r) else n) ≤ y
    split
    · refine ⟨List.mem_cons_of_mem _ h1, fun y hy => ?_⟩
      rcases List.mem_cons.mp hy with e | e
      · omega
      · exact h2 y e
    · refine ⟨List.mem_cons_self, fun y hy => ?_⟩
      rcases List.mem_cons.mp hy with e | e
      · omega
      · have := h2 y e; omega
def max1F (d : D) (h : PH) : Res D := match itemsL h d with
  | some ds => (match intsOf ds with
    | some (n :: ns) => .ok (.int (maxI (n :: ns))) h
    | _ => .stuck)
  | none => .stuck
def min1F (d : D) (h : PH) : Res D := match itemsL h d with
  | some ds => (match intsOf ds with
    | some (n :: ns) => .ok (.int (minI (n :: ns))) h
    | _ => .stuck)
  | none => .stuck
theorem o_max1 : Op1 K W max1F (fun x H Q => ∃ (a : Addr) (ns : List Int), x = V.ref a ∧ SqL K H a (ns.map V.int) ∧ 0 < ns.length ∧ ∀ m, m ∈ ns → (∀ y, y ∈ ns → y ≤ m) → Q (.int m) H) := by
  intro σ ρ h H d x Q at_ rx p
  unfold max1F at p
  split at p
  · rename_i ds q
    split at p
    · rename_i n ns q2
      obtain ⟨a, xs, rfl, s, i, l⟩ := itemsL_is at_ q rx
      have e := intsOf_is q2 i
      subst e
      have sp := maxI_spec (ns := n :: ns) (by simp)
      refine ⟨a, n :: ns, rfl, s, by simp, fun m hm hle => ?_⟩
      have e : m = maxI (n :: ns) := by have := sp.2 m hm; have := hle _ sp.1; omega
      rw [e]
      exact p ρ _ H at_.refl is_int
    · exact p.elim
  · exact p.elim
theorem o_min1 : Op1 K W min1F (fun x H Q => ∃ (a : Addr) (ns : List Int), x = V.ref a ∧ SqL K H a (ns.map V.int) ∧ 0 < ns.length ∧ ∀ m, m ∈ ns → (∀ y, y ∈ ns → m ≤ y) → Q (.int m) H) := by
  intro σ ρ h H d x Q at_ rx p
  unfold min1F at p
  split at p
  · rename_i ds q
    split at p
    · rename_i n ns q2
      obtain ⟨a, xs, rfl, s, i, l⟩ := itemsL_is at_ q rx
      have e := intsOf_is q2 i
      subst e
      have sp := minI_spec (ns := n :: ns) (by simp)
      refine ⟨a, n :: ns, rfl, s, by simp, fun m hm hle => ?_⟩
      have e : m = minI (n :: ns) := by have := sp.2 m hm; have := hle _ sp.1; omega
      rw [e]
      exact p ρ _ H at_.refl is_int
    · exact p.elim
  · exact p.elim
theorem c_max1 (hc : X.calm = true) : CallR X (.builtin "max") (fun xs H Q => ∃ x, xs = [x] ∧ ∃ (a : Addr) (ns : List Int), x = V.ref a ∧ SqL (kx X W) H a (ns.map V.int) ∧ 0 < ns.length ∧ ∀ m, m ∈ ns → (∀ y, y ∈ ns → y ≤ m) → Q (.int m) H) := by
  intro pins s σ H xs us Q I r h
  obtain ⟨x, rfl, a, ns, rfl, q⟩ := h
  exact cr_max hc pins s σ H _ us Q I r ⟨a, ns, rfl, q⟩
theorem c_min1 (hc : X.calm = true) : CallR X (.builtin "min") (fun xs H Q => ∃ x, xs = [x] ∧ ∃ (a : Addr) (ns : List Int), x = V.ref a ∧ SqL (kx X W) H a (ns.map V.int) ∧ 0 < ns.length ∧ ∀ m, m ∈ ns → (∀ y, y ∈ ns → m ≤ y) → Q (.int m) H) := by
  intro pins s σ H xs us Q I r h
  obtain ⟨x, rfl, a, ns, rfl, q⟩ := h
  exact cr_min hc pins s σ H _ us Q I r ⟨a, ns, rfl, q⟩
/-- the truth values of a list -/
def blsOf : List D → Option (List Bool)
  | [] => some []
  | .bl i :: r => (match blsOf r with
    | some l => some (i :: l)
    | none => none)
  | _ :: _ => none
theorem blsOf_is {ρ : List Addr} {H : Hp} : ∀ {ds : List D} {ns : List Bool} {xs : List V}, blsOf ds = some ns → IsL K ρ H ds xs → xs = ns.map V.bl
  | [], ns, xs, e, h => by cases e; exact h.nil
  | d :: ds, ns, xs, e, h => by
    unfold IsL at h
    obtain ⟨x, r, rfl, h1, h2⟩ := h
    cases d with
    | bl i =>
      have e' : (match blsOf ds with | some l => some (i :: l) | none => none) = some ns := e
      cases q : blsOf ds with
      | none => rw [q] at e'; cases e'
      | some l =>
        rw [q] at e'
        cases e'
        rw [h1.bl, blsOf_is q h2]; rfl
    | _ => cases e
def allF (d : D) (h : PH) : Res D := match itemsL h d with
  | some ds => (match blsOf ds with
    | some bs => .ok (.bl (bs.all id)) h
    | none => .stuck)
  | none => .stuck
def anyF (d : D) (h : PH) : Res D := match itemsL h d with
  | some ds => (match blsOf ds with
    | some bs => .ok (.bl (bs.any id)) h
    | none => .stuck)
  | none => .stuck
theorem o_all : Op1 K W allF (fun x H Q => ∃ (a : Addr) (bs : List Bool), x = V.ref a ∧ SqL K H a (bs.map V.bl) ∧ Q (.bl (bs.all id)) H) := by
  intro σ ρ h H d x Q at_ rx p
  unfold allF at p
  split at p
  · rename_i ds q
    split at p
    · rename_i ns q2
      obtain ⟨a, xs, rfl, s, i, l⟩ := itemsL_is at_ q rx
      have e := blsOf_is q2 i
      subst e
      exact ⟨a, ns, rfl, s, p ρ _ H at_.refl is_bl⟩
    · exact p.elim
  · exact p.elim
theorem o_any : Op1 K W anyF (fun x H Q => ∃ (a : Addr) (bs : List Bool), x = V.ref a ∧ SqL K H a (bs.map V.bl) ∧ Q (.bl (bs.any id)) H) := by
  intro σ ρ h H d x Q at_ rx p
  unfold anyF at p
  split at p
  · rename_i ds q
    split at p
    · rename_i ns q2
      obtain ⟨a, xs, rfl, s, i, l⟩ := itemsL_is at_ q rx
      have e := blsOf_is q2 i
      subst e
      exact ⟨a, ns, rfl, s, p ρ _ H at_.refl is_bl⟩
    · exact p.elim
  · exact p.elim
theorem c_all (hc : X.calm = true) : CallR X (.builtin "all") (fun xs H Q => ∃ x, xs = [x] ∧ ∃ (a : Addr) (bs : List Bool), x = V.ref a ∧ SqL (kx X W) H a (bs.map V.bl) ∧ Q (.bl (bs.all id)) H) := by
  intro pins s σ H xs us Q I r h
  obtain ⟨x, rfl, a, ns, rfl, q⟩ := h
  exact cr_all hc pins s σ H _ us Q I r ⟨a, ns, rfl, q⟩
theorem c_any (hc : X.calm = true) : CallR X (.builtin "any") (fun xs H Q => ∃ x, xs = [x] ∧ ∃ (a : Addr) (bs : List Bool), x = V.ref a ∧ SqL (kx X W) H a (bs.map V.bl) ∧ Q (.bl (bs.any id)) H) := by
  intro pins s σ H xs us Q I r h
  obtain ⟨x, rfl, a, ns, rfl, q⟩ := h
  exact cr_any hc pins s σ H _ us Q I r ⟨a, ns, rfl, q⟩
end
end Dy

/-! Calls of defs; methods; statements; loops. -/
namespace Dy
open PySem PySem.Spec PyProof.Rows L2
/-! ### what a def promises -/
abbrev Fn := List D → PH → Res D
def PostF (K : KX) (Q : VK) (E : XK) (ρ : List Addr) (H : Hp) : Res D → Prop
  | .ok d h' => ∀ ρ' v H', Ext K ρ H h' ρ' H' → RD K ρ' H' h'.cs.length d v → Q v H'
  | .exc c h' => ∀ ρ' H', Ext K ρ H h' ρ' H' → E (.ref (He.ga K c)) none H'
  | .stuck => False
def spD (K : KX) (n : Nat) (f : Fn) : Sp := fun vs H Q E => vs.length = n ∧ ∃ ρ ds h, At K ρ h H ∧ RL K ρ H h.cs.length ds vs ∧ PostF K Q E ρ H (f ds h)
section
variable {X : Cx} {W : WJ}
theorem da_len {K : KX} {ρ : List Addr} {H : Hp} {n : Nat} {ds : List D} {vs : List V} (r : RL K ρ H n ds vs) : vs.length = ds.length := r.1.length
/-- a call with n arguments -/
def callF (n : Nat) (f : Fn) : Fn := fun ds h => if ds.length = n then f ds h else .stuck
theorem t_call {K : KX} {w : WX} {hx : Option (Nat × Addr)} {n : Nat} {f : Fn} {m : AM} {σ : L2.St} {H : Hp} {Q : VK} (t : tE K ⟨w, hx⟩ (nA (callF n f) m) σ H Q) : tCallS (spD K n f) (WE w) (tA K ⟨w, hx⟩ m) σ H Q := by
  obtain ⟨ρ, env, h, rl, p⟩ := t
  refine tG_mono (PostG.bind (R := RL K) rl p) fun b H1 ⟨ρ1, h1, a1, x1, ra1, p1⟩ => ?_
  unfold callF at p1
  split at p1
  · rename_i hl
    refine ⟨by rw [ra1.1.length]; exact hl, ρ1, a1, h1, x1.at, ra1, ?_⟩
    cases e : f a1 h1 with
    | stuck => rw [e] at p1; exact p1
    | exc c h2 => rw [e] at p1; exact p1
    | ok d h2 => rw [e] at p1; exact p1
  · exact p1.elim
theorem de_call {x : Str} {p pos : Pos} {e : Expr} {es : List Expr} {m : AM} {k n : Nat} {a : Addr} {fd : FuncData} {ps : List Str} {f : Fn} {w : WX} (F : FnOk X.prog X.w X.K X.mg X.base (L2.CX X.prog X.w) k a fd ps (spD ⟨X.K, none⟩ n f)) (hr : Room k X.A) (hg : Gl X x)
    (hm : X.mg x = some (.ref a)) (hk : PySem.W.keepIn X.K (.ref a) = true) (hb : Binds X.K fd ps []) (tk : Takes X w) (ha : DA X ⟨w, none⟩ (e :: es) m) (hdb : (x == ("__debug__" : Str)) = false) (ns : noStars (e :: es) = true) : DE X ⟨w, none⟩ (.Call (.Name x p) (e :: es) [] pos) (nA (callF n f) m) :=
  pe_imp (pe_callS F hr hg hm hk hb (fun σ => passAt tk σ) ha hdb (star_no (noStars_head ns).1 es _) (noStars_any (noStars_head ns).2 pos _)) fun σ H Q t => t_call t
/-- no arguments -/
theorem de_call0 {x : Str} {p pos : Pos} {k : Nat} {a : Addr} {fd : FuncData} {ps : List Str} {f : Fn} {w : WX} (F : FnOk X.prog X.w X.K X.mg X.base (L2.CX X.prog X.w) k a fd ps (spD ⟨X.K, none⟩ 0 f)) (hr : Room k X.A) (hg : Gl X x)
    (hm : X.mg x = some (.ref a)) (hk : PySem.W.keepIn X.K (.ref a) = true) (hb : Binds X.K fd ps []) (tk : Takes X w) (hdb : (x == ("__debug__" : Str)) = false) : DE X ⟨w, none⟩ (.Call (.Name x p) [] [] pos) (nA (callF 0 f) nilA) := by
  refine ⟨fun pins s σ H Q I h => ?_⟩
  refine wpAny_Call_Name_kw (ld_glob I hg hm ?_ hdb)
  have q : tA ⟨X.K, none⟩ ⟨w, none⟩ nilA σ H fun vs H1 => spD ⟨X.K, none⟩ 0 f vs H1 Q (WE w σ) := t_call h
  obtain ⟨ρ, env, h', rl, p⟩ := q
  have p : ∀ ρ' b H', Ext ⟨X.K, none⟩ ρ H h' ρ' H' → RL ⟨X.K, none⟩ ρ' H' h'.cs.length [] b → spD ⟨X.K, none⟩ 0 f b H' Q (WE w σ) := p
  have q2 := p ρ [] H rl.refl ⟨by unfold IsL; rfl, Nat.zero_le _⟩
  refine PySem.W.callWith_K0 I.kIn hk ?_
  exact run_fnS (us := []) F hr hb (passAt tk σ) I .nil q2

/-! ### methods of lists and texts -/
/-- the receiver's type is told ahead of the arguments: it keeps it -/
def tyOk (T : String) (h : PH) : D → Bool
  | .str _ => T == "str"
  | .frl _ => T == "list"
  | .ref n => (match h.cs[n]? with
    | some (.lst _) => T == "list"
    | _ => false)
  | _ => false
def mtE (T : String) (f : D → List D → PH → Res D) (o : EM) (a : AM) : EM := fun e h => (o e h).bind fun x h1 => if tyOk T h1 x = true then (a e h1).bind fun xs h2 => f x xs h2 else .stuck
theorem tyOk_is {K : KX} {ρ : List Addr} {h : PH} {H : Hp} (at_ : At K ρ h H) {T : String} {d : D} {v : V} (t : tyOk T h d = true) (r : RD K ρ H h.cs.length d v) : tyV K T v H := by
  cases d with
  | str z => rw [r.1.str]; exact eq_of_beq t
  | frl ds =>
    obtain ⟨a, xs, rfl, s, _⟩ := r.1.frl
    exact .inl ⟨eq_of_beq t, xs, s.sq⟩
  | ref n =>
    have t' : (match h.cs[n]? with
    | some (.lst _) => T == "list"
    | _ => false) = true := t
    split at t'
    · rename_i ds q
      obtain ⟨a, xs, rfl, _, h1, _⟩ := at_.lst q r.1
      exact .inl ⟨eq_of_beq t', xs, SqL.of h1⟩
    · cases t'
  | _ => cases t
theorem t_mt {K : KX} {T : String} {f : D → List D → PH → Res D} {r : V → List V → Hp → VK → Prop} (hf : OpM K W f r) {mo : EM} {ma : AM} {σ : L2.St} {H : Hp} {Q : VK} (t : tE K W (mtE T f mo ma) σ H Q) :
    tE K W mo σ H fun x H1 => tyV K T x H1 ∧ tA K W ma σ H1 fun xs H2 => r x xs H2 Q := by
  obtain ⟨ρ, env, h, rl, p⟩ := t
  refine tG_mono (PostG.bind (R := RD K) rl p) fun b H1 ⟨ρ1, h1, a1, x1, ra1, p1⟩ => ?_
  split at p1
  · rename_i ty
    refine ⟨tyOk_is x1.at ty ra1, ?_⟩
    refine tG_mono (PostG.bind (R := RL K) (rl.ext x1) p1) fun b2 H2 ⟨ρ2, h2, a2, x2, ra2, p2⟩ => ?_
    exact hf σ ρ2 h2 H2 a1 b a2 b2 Q x2.at (ra1.ext x2 (rl.ext x1).len) ra2 p2
  · exact p1.elim
/-- the receiver is no bare call of super -/
def baseOk : Expr → Bool
  | .Call (.Name _ _) [] [] _ => false
  | _ => true
theorem baseOk_is {o : Expr} (h : baseOk o = true) (m : Str) (env : PySem.Env) (whole : Sem Value) : attributeBase o m env whole = whole := by
  cases o with
  | Call f as ks pos =>
    cases f with
    | Name id p =>
      cases as with
      | nil =>
        cases ks with
        | nil => cases h
        | cons _ _ => rfl
      | cons _ _ => rfl
    | _ => rfl
  | _ => rfl
theorem noStars_all : ∀ {es : List Expr} (h : noStars es = true) (pos : Pos) (env : PySem.Env), (backTo pos (starEach es env)).all (fun x => !x.1) = true
  | [], _, _, _ => rfl
  | e :: es, h, pos, env => by
    obtain ⟨h1, h2⟩ := noStars_head h
    rw [star_no h1 es env]
    show (!false && (backTo pos (starEach es env)).all (fun x => !x.1)) = true
    rw [noStars_all h2 pos env]; rfl
theorem de_mt {T id : String} {name : Str} {o e : Expr} {es : List Expr} {apos cpos : Pos} {mo : EM} {ma : AM} {f : D → List D → PH → Res D} {r : V → List V → Hp → VK → Prop} (pa : PlainAttrs T) (slot : Slot T name id) (hty : typeOf (.builtin id) = pure (.type "method_descriptor"))
    (hm : MtR X id r) (hf : OpM (kx X W) W f r) (ho : DE X W o mo) (ha : DA X W (e :: es) ma) (bo : baseOk o = true) (ns : noStars (e :: es) = true) (hl : (apos.endLine == cpos.line) = true) (few : (e :: es).length < 30) :
    DE X W (.Call (.Attribute o name apos) (e :: es) [] cpos) (mtE T f mo ma) :=
  pe_imp (pe_bm pa slot hty hm ho ha (baseOk_is bo _ _ _) (by
    rw [noStars_all ns cpos X.env, decide_eq_true (by simpa using few)]; rfl) hl (star_no (noStars_head ns).1 es _) (noStars_any (noStars_head ns).2 cpos _)) fun σ H Q t => t_mt hf t
theorem de_mt0 {T id : String} {name : Str} {o : Expr} {apos cpos : Pos} {mo : EM} {f : D → List D → PH → Res D} {r : V → List V → Hp → VK → Prop} (pa : PlainAttrs T) (slot : Slot T name id) (hty : typeOf (.builtin id) = pure (.type "method_descriptor"))
    (hm : MtR X id r) (hf : OpM (kx X W) W f r) (ho : DE X W o mo) (bo : baseOk o = true) (hl : (apos.endLine == cpos.line) = true) :
    DE X W (.Call (.Attribute o name apos) [] [] cpos) (mtE T f mo nilA) :=
  pe_imp (pe_bm0 pa slot hty hm ho (baseOk_is bo _ _ _) hl) fun σ H Q t => by
    obtain ⟨ρ, env, h, rl, p⟩ := t_mt hf t
    refine ⟨ρ, env, h, rl, ?_⟩
    cases e : mo env h with
    | stuck => rw [e] at p; exact p
    | exc c h1 => rw [e] at p; exact p
    | ok a h1 =>
      rw [e] at p
      intro ρ1 b H1 x1 rb
      obtain ⟨ty, ρ2, env2, h2, rl2, p2⟩ := p ρ1 b H1 x1 rb
      exact ⟨ty, p2 ρ2 [] H1 rl2.refl ⟨by unfold IsL; rfl, Nat.zero_le _⟩⟩
/-- an operation that writes a list -/
theorem put_lst {K : KX} {ρ : List Addr} {h : PH} {H : Hp} (x : At K ρ h H) {n : Nat} {a : Addr} (ha : ρ[n]? = some a) {ds : List D} {xs : List V} (i : IsL K ρ H ds xs) (l : mrL ds ≤ h.cs.length) : Ext K ρ H (h.put n (.lst ds)) ρ (upd H a (.lst xs)) :=
  Ext.put x.heap x.wf ha l fun H' e k => ⟨xs, e, IsL.mono k ρ.length (fun i _ a ha => ha) ds xs (by rw [x.heap.len]; exact l) i⟩
theorem put_len (h : PH) (n : Nat) (c : Cell) : (h.put n c).cs.length = h.cs.length := by
  show (h.cs.set n c).length = _
  rw [List.length_set]
def appF (d : D) (as : List D) (h : PH) : Res D := match refLst h d, as with
  | some (n, ds), [a] => if ds.length < 16777216 then .ok .non (h.put n (.lst (ds ++ [a]))) else .stuck
  | _, _ => .stuck
theorem IsL.one {K : KX} {ρ : List Addr} {H : Hp} {d : D} {xs : List V} (h : IsL K ρ H [d] xs) : ∃ v, xs = [v] ∧ Is K ρ H d v := by
  unfold IsL at h
  obtain ⟨x, r, rfl, h1, h2⟩ := h
  rw [h2.nil]
  exact ⟨x, rfl, h1⟩
theorem mrL_one {d : D} {n : Nat} (h : mrL [d] ≤ n) : d.mr ≤ n := by unfold mrL at h; omega
theorem o_app : OpM (kx X W) W appF rAppend := by
  intro σ ρ h H d x ds xs Q at_ rx ra p
  unfold appF at p
  split at p
  · rename_i n es a q
    split at p
    · rename_i c
      obtain ⟨_, _, b, ys, rfl, hb, h1, i, l⟩ := refLst_is at_ q rx
      obtain ⟨v, rfl, iv⟩ := ra.1.one
      have la := mrL_one ra.2
      refine ⟨b, ys, v, rfl, rfl, h1, by rw [sizeLine_eq, i.length]; exact c, ?_⟩
      have i2 : IsL (kx X W) ρ H (es ++ [a]) (ys ++ [v]) := i.append ra.1
      exact p ρ _ _ (put_lst at_ hb i2 (by rw [mrL_append]; exact Nat.max_le.mpr ⟨l, ra.2⟩)) is_non
    · exact p.elim
  · exact p.elim
/-- xs.pop() -/
def popF (d : D) (as : List D) (h : PH) : Res D := match refLst h d, as with
  | some (n, ds), [] => (match ds[ds.length - 1]? with
    | some y => .ok y (h.put n (.lst ds.dropLast))
    | none => .stuck)
  | _, _ => .stuck
theorem IsL.dropLast {K : KX} {ρ : List Addr} {H : Hp} {ds : List D} {xs : List V} (h : IsL K ρ H ds xs) : IsL K ρ H ds.dropLast xs.dropLast := by
  rw [List.dropLast_eq_take, List.dropLast_eq_take, h.length]
  exact h.take _
theorem o_pop : OpM (kx X W) W popF rPop := by
  intro σ ρ h H d x ds xs Q at_ rx ra p
  unfold popF at p
  split at p
  · rename_i n es q
    split at p
    · rename_i y qy
      obtain ⟨_, _, b, ys, rfl, hb, h1, i, l⟩ := refLst_is at_ q rx
      have e0 := ra.1.nil
      obtain ⟨v, e1, iv⟩ := i.get qy
      rw [← i.length] at e1
      refine ⟨b, ys, v, rfl, e0, h1, e1, ?_⟩
      have ly : y.mr ≤ h.cs.length := Nat.le_trans (mrL_get qy) l
      have l2 : mrL es.dropLast ≤ h.cs.length := by rw [List.dropLast_eq_take]; exact Nat.le_trans mrL_take l
      have x2 := put_lst at_ hb i.dropLast l2
      refine p ρ _ _ x2 ⟨x2.is (by rw [at_.heap.len]; exact ly) iv, by rw [put_len]; exact ly⟩
    · exact p.elim
  · exact p.elim
/-- the texts of a list -/
def strsOf : List D → Option (List Str)
  | [] => some []
  | .str i :: r => (match strsOf r with
    | some l => some (i :: l)
    | none => none)
  | _ :: _ => none
theorem strsOf_is {K : KX} {ρ : List Addr} {H : Hp} : ∀ {ds : List D} {ns : List Str} {xs : List V}, strsOf ds = some ns → IsL K ρ H ds xs → xs = ns.map V.str
  | [], ns, xs, e, h => by cases e; exact h.nil
  | d :: ds, ns, xs, e, h => by
    unfold IsL at h
    obtain ⟨x, r, rfl, h1, h2⟩ := h
    cases d with
    | str i =>
      have e' : (match strsOf ds with | some l => some (i :: l) | none => none) = some ns := e
      cases q : strsOf ds with
      | none => rw [q] at e'; cases e'
      | some l =>
        rw [q] at e'
        cases e'
        rw [h1.str, strsOf_is q h2]; rfl
    | _ => cases e
def joinF (d : D) (as : List D) (h : PH) : Res D := match d, as with
  | .str a, [l] => (match itemsS h l with
    | some ds => (match strsOf ds with
      | some ys => if (ys.map (·.length)).sum + ys.length * a.length ≤ 16777216 then .ok (.str (Txt.join a ys)) h else .stuck
      | none => .stuck)
    | none => .stuck)
  | _, _ => .stuck
theorem o_join : OpM (kx X W) W joinF (fun x xs H Q => ∃ a p, ∃ ys : List Str, x = .str a ∧ xs = [.ref p] ∧ (SqL (kx X W) H p (ys.map V.str) ∨ SqT (kx X W) H p (ys.map V.str)) ∧ (ys.map (·.length)).sum + ys.length * a.length ≤ 16777216 ∧ Q (.str (Txt.join a ys)) H) := by
  intro σ ρ h H d x ds xs Q at_ rx ra p
  unfold joinF at p
  split at p
  · rename_i a l
    split at p
    · rename_i es q
      split at p
      · rename_i ys q2
        split at p
        · rename_i c
          obtain ⟨v, rfl, iv⟩ := ra.1.one
          obtain ⟨b, zs, rfl, s, i, _⟩ := itemsS_is at_ q ⟨iv, mrL_one ra.2⟩
          have e := strsOf_is q2 i
          subst e
          exact ⟨a, b, ys, rx.1.str, rfl, s, c, p ρ _ H at_.refl is_str⟩
        · exact p.elim
      · exact p.elim
    · exact p.elim
  · exact p.elim
def splitF (d : D) (as : List D) (h : PH) : Res D := match d, as with
  | .str a, [.str b] => if (b.length == 0) = false ∧ a.length + 2 ≤ 16777216 then newL ((Txt.split a b).map D.str) h else .stuck
  | _, _ => .stuck
theorem isL_strs {K : KX} {ρ : List Addr} {H : Hp} : ∀ (l : List Str), IsL K ρ H (l.map D.str) (l.map V.str)
  | [] => by show IsL K ρ H [] []; unfold IsL; rfl
  | x :: l => by
    show IsL K ρ H (D.str x :: l.map D.str) (V.str x :: l.map V.str)
    unfold IsL
    exact ⟨_, _, rfl, by unfold Is; rfl, isL_strs l⟩
theorem mrL_strs : ∀ (l : List Str), mrL (l.map D.str) = 0
  | [] => rfl
  | x :: l => by
    show max 0 (mrL (l.map D.str)) = 0
    rw [mrL_strs l]; rfl
theorem o_split : OpM (kx X W) W splitF (fun x xs H Q => ∃ a b, x = .str a ∧ xs = [.str b] ∧ (b.length == 0) = false ∧ a.length + 2 ≤ sizeLine ∧ rNewStrs (Txt.split a b) H Q) := by
  intro σ ρ h H d x ds xs Q at_ rx ra p
  unfold splitF at p
  split at p
  · rename_i a b
    split at p
    · rename_i c
      obtain ⟨v, rfl, iv⟩ := ra.1.one
      refine ⟨a, b, rx.1.str, by rw [iv.str], c.1, by rw [sizeLine_eq]; exact c.2, fun q hq => ?_⟩
      obtain ⟨ρ', e1, e2⟩ := push_lst at_ (isL_strs (Txt.split a b)) (by rw [mrL_strs]; exact Nat.zero_le _) hq
      exact p ρ' _ _ e1 e2
    · exact p.elim
  · exact p.elim

/-- text.index(sub, start), where it is found -/
theorem mt_indexFrom : MtR X "str.index" (fun x xs H Q => ∃ (a b : Str) (i : Int) (k : Nat), x = .str a ∧ xs = [.str b, .int i] ∧ PySem.Txt.indexFrom a b i = some k ∧ Q (.int (k : Nat)) H) := by
  intro pins s σ H x xs v us Q I rx rs h
  obtain ⟨a, b, i, k, e1, e2, ho, q⟩ := h
  subst e1
  subst e2
  obtain ⟨t, e⟩ := rx
  subst e
  cases rs with
  | cons r1 rs =>
    cases rs with
    | cons r2 rs =>
      cases rs
      obtain ⟨t2, e⟩ := r1
      subst e
      obtain ⟨t3, e⟩ := r2
      subst e
      unfold PySem.Txt.indexFrom at ho
      cases e : PySem.Builtin.Str.occurrences a b (PySem.fromIndex a.length i) a.length 1 with
      | nil => rw [e] at ho; cases ho
      | cons j rest =>
        rw [e] at ho
        have ej : j = k := by simpa using ho
        subst ej
        exact call_gives PySem.F.slot_str_index (typeIs_str _ _ _) PySem.F.entry_str_index (PySem.F.args_str_index_3 _ _ _) (gives_str_index_from a b i t t2 t3 j rest e) ⟨.int (j : Nat), H, I.tok _, ⟨_, rfl⟩, q⟩
def indexF (d : D) (as : List D) (h : PH) : Res D := match d, as with
  | .str a, [.str b, .int i] => (match PySem.Txt.indexFrom a b i with
    | some k => .ok (.int (k : Nat)) h
    | none => .stuck)
  | _, _ => .stuck
theorem o_index : OpM (kx X W) W indexF (fun x xs H Q => ∃ (a b : Str) (i : Int) (k : Nat), x = .str a ∧ xs = [.str b, .int i] ∧ PySem.Txt.indexFrom a b i = some k ∧ Q (.int (k : Nat)) H) := by
  intro σ ρ h H d x ds xs Q at_ rx ra p
  unfold indexF at p
  split at p
  · rename_i a b i
    split at p
    · rename_i k e
      have iv := ra.1
      unfold IsL at iv
      obtain ⟨v, r, rfl, i1, i2⟩ := iv
      obtain ⟨u, rfl, i3⟩ := i2.one
      exact ⟨a, b, i, k, rx.1.str, by rw [i1.str, i3.int], e, p ρ _ H at_.refl is_int⟩
    · exact p.elim
  · exact p.elim
/-! ### sorted ints -/
def insI (n : Int) : List Int → List Int
  | [] => [n]
  | m :: r => if n ≤ m then n :: m :: r else m :: insI n r
def sortI : List Int → List Int
  | [] => []
  | n :: r => insI n (sortI r)
theorem insI_perm (n : Int) : ∀ l : List Int, (insI n l).Perm (n :: l)
  | [] => .refl _
  | m :: r => by
    show (if n ≤ m then n :: m :: r else m :: insI n r).Perm (n :: m :: r)
    split
    · exact .refl _
    · exact ((insI_perm n r).cons m).trans (.swap n m r)
theorem sortI_perm : ∀ l : List Int, (sortI l).Perm l
  | [] => .refl _
  | n :: r => (insI_perm n (sortI r)).trans ((sortI_perm r).cons n)
theorem insI_sorted (n : Int) : ∀ {l : List Int}, l.Pairwise (· ≤ ·) → (insI n l).Pairwise (· ≤ ·)
  | [], _ => by show [n].Pairwise _; simp
  | m :: r, h => by
    show (if n ≤ m then n :: m :: r else m :: insI n r).Pairwise (· ≤ ·)
    obtain ⟨h1, h2⟩ := List.pairwise_cons.mp h
    split
    · rename_i c
      refine List.pairwise_cons.mpr ⟨fun y hy => ?_, h⟩
      rcases List.mem_cons.mp hy with e | e
      · rw [e]; exact c
      · exact Int.le_trans c (h1 y e)
    · rename_i c
      refine List.pairwise_cons.mpr ⟨fun y hy => ?_, insI_sorted n h2⟩
      rcases List.mem_cons.mp ((insI_perm n r).mem_iff.mp hy) with e | e
      · rw [e]; omega
      · exact h1 y e
theorem sortI_sorted : ∀ l : List Int, (sortI l).Pairwise (· ≤ ·)
  | [] => List.Pairwise.nil
  | n :: r => insI_sorted n (sortI_sorted r)
theorem sorted_unique : ∀ {l m : List Int}, l.Perm m → l.Pairwise (· ≤ ·) → m.Pairwise (· ≤ ·) → l = m
  | [], m, p, _, _ => (List.Perm.nil_eq p)
  | a :: l, [], p, _, _ => absurd p.length_eq (by simp)
  | a :: l, b :: m, p, h1, h2 => by
    obtain ⟨a1, a2⟩ := List.pairwise_cons.mp h1
    obtain ⟨b1, b2⟩ := List.pairwise_cons.mp h2
    have e : a = b := by
      have ha : a ∈ b :: m := p.mem_iff.mp List.mem_cons_self
      have hb : b ∈ a :: l := p.mem_iff.mpr List.mem_cons_self
      rcases List.mem_cons.mp ha with e | e
      · exact e
      · rcases List.mem_cons.mp hb with e' | e'
        · exact e'.symm
        · have := b1 a e; have := a1 b e'; omega
    subst e
    rw [sorted_unique (List.Perm.cons_inv p) a2 b2]
def sortedF (d : D) (h : PH) : Res D := match itemsL h d with
  | some ds => (match intsOf ds with
    | some ns => newL ((sortI ns).map D.int) h
    | none => .stuck)
  | none => .stuck
theorem isL_ints {K : KX} {ρ : List Addr} {H : Hp} : ∀ (l : List Int), IsL K ρ H (l.map D.int) (l.map V.int)
  | [] => by show IsL K ρ H [] []; unfold IsL; rfl
  | x :: l => by
    show IsL K ρ H (D.int x :: l.map D.int) (V.int x :: l.map V.int)
    unfold IsL
    exact ⟨_, _, rfl, by unfold Is; rfl, isL_ints l⟩
theorem mrL_ints : ∀ (l : List Int), mrL (l.map D.int) = 0
  | [] => rfl
  | x :: l => by
    show max 0 (mrL (l.map D.int)) = 0
    rw [mrL_ints l]; rfl
theorem o_sorted : Op1 (kx X W) W sortedF (fun x H Q => ∃ (a : Addr) (ns : List Int), x = V.ref a ∧ SqL (kx X W) H a (ns.map V.int) ∧ ∀ (ns' : List Int) (p : Addr), ns'.Perm ns → ns'.Pairwise (· ≤ ·) → H p = none → Q (.ref p) (upd H p (.lst (ns'.map V.int)))) := by
  intro σ ρ h H d x Q at_ rx p
  unfold sortedF at p
  split at p
  · rename_i ds q
    split at p
    · rename_i ns q2
      obtain ⟨a, xs, rfl, s, i, l⟩ := itemsL_is at_ q rx
      have e := intsOf_is q2 i
      subst e
      refine ⟨a, ns, rfl, s, fun ns' q pm sr hq => ?_⟩
      have e := sorted_unique (pm.trans (sortI_perm ns).symm) sr (sortI_sorted ns)
      subst e
      obtain ⟨ρ', e1, e2⟩ := push_lst at_ (isL_ints (sortI ns)) (by rw [mrL_ints]; exact Nat.zero_le _) hq
      exact p ρ' _ _ e1 e2
    · exact p.elim
  · exact p.elim
theorem c_sorted : CallR X (.builtin "sorted") (fun xs H Q => ∃ x, xs = [x] ∧ ∃ (a : Addr) (ns : List Int), x = V.ref a ∧ SqL (kx X W) H a (ns.map V.int) ∧ ∀ (ns' : List Int) (p : Addr), ns'.Perm ns → ns'.Pairwise (· ≤ ·) → H p = none → Q (.ref p) (upd H p (.lst (ns'.map V.int)))) := by
  intro pins s σ H xs us Q I r h
  obtain ⟨x, rfl, a, ns, rfl, q⟩ := h
  exact cr_sortedI pins s σ H _ us Q I r ⟨a, ns, rfl, q⟩
end
end Dy

/-! Statements, targets, loops, comprehensions. -/
namespace Dy
open PySem PySem.Spec PyProof.Rows L2
section
variable {X : Cx} {W : WJ}
/-! ### blocks, small statements -/
def nextS : SM := fun e h => .nxt e h
def brkS : SM := fun e h => .brk e h
def cntS : SM := fun e h => .cnt e h
def seqS (a b : SM) : SM := fun e h => match a e h with
  | .nxt e1 h1 => b e1 h1
  | .ret d h1 => .ret d h1
  | .brk e1 h1 => .brk e1 h1
  | .cnt e1 h1 => .cnt e1 h1
  | .exc c e1 h1 => .exc c e1 h1
  | .stuck => .stuck
theorem dss_nil : DSs X W [] nextS := pss_imp pss_nil fun D σ H ⟨ρ, env, h, rl, p⟩ => p ρ σ H rl.refl rl.eis rl.ewf
theorem tS_mono {K : KX} {m : SM} {σ : L2.St} {H : Hp} {D : Ends} {N : L2.St → Hp → Prop} (t : tS K W m D σ H) (k : ∀ σ H, D.nx σ H → N σ H) : tS K W m { D with nx := N } σ H := by
  obtain ⟨ρ, env, h, rl, p⟩ := t
  refine ⟨ρ, env, h, rl, ?_⟩
  cases e : m env h with
  | nxt e1 h1 => rw [e] at p; exact fun ρ' σ' H' x1 x2 x3 => k _ _ (p ρ' σ' H' x1 x2 x3)
  | ret d h1 => rw [e] at p; exact p
  | brk e1 h1 => rw [e] at p; exact p
  | cnt e1 h1 => rw [e] at p; exact p
  | exc c e1 h1 => rw [e] at p; exact p
  | stuck => rw [e] at p; exact p
theorem t_seq {K : KX} {a b : SM} {σ : L2.St} {H : Hp} {D : Ends} (t : tS K W (seqS a b) D σ H) : tS K W a { D with nx := tS K W b D } σ H := by
  obtain ⟨ρ, env, h, rl, p⟩ := t
  refine ⟨ρ, env, h, rl, ?_⟩
  unfold seqS at p
  cases e : a env h with
  | nxt e1 h1 =>
    rw [e] at p
    exact fun ρ' σ' H' x1 x2 x3 => ⟨ρ', e1, h1, ⟨x2, x1.rel, x1.wf, x3⟩, p.shift x1⟩
  | ret d h1 => rw [e] at p; exact p
  | brk e1 h1 => rw [e] at p; exact p
  | cnt e1 h1 => rw [e] at p; exact p
  | exc c e1 h1 => rw [e] at p; exact p
  | stuck => rw [e] at p; exact p
theorem dss_cons {st : Stmt} {rest : List Stmt} {a b : SM} (h1 : DS X W st a) (h2 : DSs X W rest b) : DSs X W (st :: rest) (seqS a b) := pss_imp (pss_cons h1 h2) fun D σ H t => t_seq t
theorem ds_pass {pos : Pos} : DS X W (.Pass pos) nextS := ps_imp ps_pass fun D σ H ⟨ρ, env, h, rl, p⟩ => p ρ σ H rl.refl rl.eis rl.ewf
theorem ds_brk {pos : Pos} : DS X W (.Break pos) brkS := ps_imp ps_break fun D σ H ⟨ρ, env, h, rl, p⟩ => p ρ σ H rl.refl rl.eis rl.ewf
theorem ds_cnt {pos : Pos} : DS X W (.Continue pos) cntS := ps_imp ps_continue fun D σ H ⟨ρ, env, h, rl, p⟩ => p ρ σ H rl.refl rl.eis rl.ewf
/-- not a comprehension -/
def notComp : Expr → Bool
  | .ListComp _ _ _ _ => false
  | .SetComp _ _ _ _ => false
  | .DictComp _ _ _ _ _ => false
  | _ => true
theorem swaps_no {e : Expr} (h : notComp e = true) (t : Option Expr) (l : Nat) (env : PySem.Env) : swapsWith e t l env = pure false := by
  cases e <;> first | rfl | cases h
def exprS (m : EM) : SM := fun e h => (m e h).bindS e fun _ h1 => .nxt e h1
theorem ds_expr {e : Expr} {m : EM} {pos : Pos} (he : DE X W e m) (hn : notComp e = true) : DS X W (.Expr e pos) (exprS m) := ps_imp (ps_expr he (swaps_no hn _ _ _)) fun D σ H ⟨ρ, env, h, rl, p⟩ => by
  refine tG_mono (PostS.bind (R := RD (kx X W)) rl p) fun b H1 ⟨ρ1, h1, a1, x1, ra1, p1⟩ => ?_
  have r1 := rl.ext x1
  exact p1 ρ1 σ H1 r1.refl r1.eis r1.ewf
theorem ds_doc {x : Str} {j : Nat} {pos pos' : Pos} : DS X W (.Expr (.Constant (.str x) j pos) pos') nextS := ps_imp ps_doc fun D σ H ⟨ρ, env, h, rl, p⟩ => p ρ σ H rl.refl rl.eis rl.ewf
def retS (m : EM) : SM := fun e h => (m e h).bindS e fun d h1 => .ret d h1
theorem ds_ret {e : Expr} {m : EM} {pos : Pos} (he : DE X W e m) : DS X W (.Return (some e) pos) (retS m) := ps_imp (ps_ret he) fun D σ H ⟨ρ, env, h, rl, p⟩ => by
  refine tG_mono (PostS.bind (R := RD (kx X W)) rl p) fun b H1 ⟨ρ1, h1, a1, x1, ra1, p1⟩ => ?_
  exact p1 ρ1 b H1 x1.at.refl ra1
def retNS : SM := fun _ h => .ret .non h
theorem ds_retN {pos : Pos} : DS X W (.Return none pos) retNS := ps_imp ps_retN fun D σ H ⟨ρ, env, h, rl, p⟩ => p ρ .non H rl.refl is_non
def ifS (t : TM) (a b : SM) : SM := fun e h => (t e h).bindS e fun c h1 => match c with
  | true => a e h1
  | false => b e h1
theorem ds_if {c : Expr} {as bs : List Stmt} {t : TM} {a b : SM} {pos : Pos} (hc : DT X W c t) (ha : DSs X W as a) (hb : DSs X W bs b) : DS X W (.If c as bs pos) (ifS t a b) := ps_imp (ps_if hc ha hb) fun D σ H ⟨ρ, env, h, rl, p⟩ => by
  refine tG_mono (PostS.bind (R := RB) rl p) fun b H1 ⟨ρ1, h1, d, x1, r1, p1⟩ => ?_
  have e : d = b := r1
  subst e
  cases d with
  | true => exact iteT ⟨ρ1, env, h1, rl.ext x1, p1⟩
  | false => exact iteF ⟨ρ1, env, h1, rl.ext x1, p1⟩

/-! ### targets -/
inductive Tgt where
  | one (i : Nat) | many (is : List Nat)
def Tgt.slots : Tgt → List Nat
  | .one i => [i]
  | .many is => is
def setAll : List Nat → List D → Env → Env
  | i :: is, d :: ds, e => setAll is ds (e.set i (some d))
  | _, _, e => e
def tgt (t : Tgt) (d : D) (e : Env) (h : PH) : Option Env := match t with
  | .one i => some (e.set i (some d))
  | .many is => (match itemsS h d with
    | some ds => if ds.length = is.length then some (setAll is ds e) else none
    | none => none)
theorem EnvIs.set {K : KX} {ρ : List Addr} {H : Hp} {env : Env} {σ : L2.St} {i : Nat} {d : D} {v : V} (hc : K.can i) (h : EnvIs K ρ H env σ) (q : Is K ρ H d v) : EnvIs K ρ H (env.set i (some d)) (σ.set i (some v)) := by
  refine ⟨by rw [List.length_set, List.length_set]; exact h.len, fun j c e => ?_, KX.J_set hc h.inv⟩
  by_cases hj : i = j
  · subst hj
    have hl : i < env.length := by
      have := (List.getElem?_eq_some_iff.mp e).1
      rw [List.length_set] at this; exact this
    rw [List.getElem?_set_self hl] at e
    have e' : d = c := by cases e; rfl
    subst e'
    exact ⟨v, by rw [List.getElem?_set_self (by rw [← h.len]; exact hl)], q⟩
  · rw [List.getElem?_set_ne hj] at e ⊢
    exact h.at_ j c e
theorem EnvWf.set {env : Env} {n i : Nat} {d : D} (w : EnvWf env n) (l : d.mr ≤ n) : EnvWf (env.set i (some d)) n := fun j c e => by
  by_cases hj : i = j
  · subst hj
    have hl : i < env.length := by
      have := (List.getElem?_eq_some_iff.mp e).1
      rw [List.length_set] at this; exact this
    rw [List.getElem?_set_self hl] at e
    have e' : d = c := by cases e; rfl
    subst e'; exact l
  · rw [List.getElem?_set_ne hj] at e
    exact w j c e
theorem Rel.set {K : KX} {ρ : List Addr} {env : Env} {h : PH} {σ : L2.St} {H : Hp} {i : Nat} {d : D} {v : V} (hc : K.can i) (r : Rel K ρ env h σ H) (q : RD K ρ H h.cs.length d v) : Rel K ρ (env.set i (some d)) h (σ.set i (some v)) H :=
  ⟨EnvIs.set hc r.eis q.1, r.heap, r.wf, r.ewf.set q.2⟩
/-- a target's reading: how it is stored -/
def TgOk (K : KX) (t : Tgt) (g : TG) : Prop := ∀ (ρ : List Addr) (env e1 : Env) (h : PH) (σ : L2.St) (H : Hp) (d : D) (v : V) (Q : L2.St → Hp → Prop), Rel K ρ env h σ H → RD K ρ H h.cs.length d v → tgt t d env h = some e1 →
  (∀ σ', Rel K ρ e1 h σ' H → (∀ vs : List Nat, (∀ i ∈ t.slots, i ∈ vs) → wipe σ' vs = wipe σ vs) → Q σ' H) → g v σ H Q
theorem wipe_get : ∀ (vs : List Nat) (σ : L2.St) (j : Nat), (wipe σ vs)[j]? = if j ∈ vs then (if j < σ.length then some none else none) else σ[j]?
  | [], σ, j => by simp [wipe]
  | v :: vs, σ, j => by
    unfold wipe
    by_cases hv : v = j
    · subst hv
      rw [if_pos List.mem_cons_self]
      by_cases hl : v < σ.length
      · rw [if_pos hl, List.getElem?_set_self (by rw [wipe_length]; exact hl)]
      · rw [if_neg hl, List.getElem?_eq_none (by rw [List.length_set, wipe_length]; omega)]
    · rw [List.getElem?_set_ne hv, wipe_get vs σ j]
      by_cases hj : j ∈ vs
      · rw [if_pos hj, if_pos (List.mem_cons_of_mem _ hj)]
      · rw [if_neg hj, if_neg (fun z => (List.mem_cons.mp z).elim (fun e => hv e.symm) hj)]
theorem wipe_set {σ : L2.St} {i : Nat} {o : Option V} {vs : List Nat} (h : i ∈ vs) : wipe (σ.set i o) vs = wipe σ vs := by
  apply List.ext_getElem?
  intro j
  rw [wipe_get, wipe_get, List.length_set]
  split
  · rfl
  · rename_i hj
    have hij : i ≠ j := fun e => hj (e ▸ h)
    rw [List.getElem?_set_ne hij]
theorem tg_one {K : KX} (i : Nat) (hc : K.can i) : TgOk K (.one i) (gName i) := fun ρ env e1 h σ H d v Q r q e k => by
  have e' : env.set i (some d) = e1 := by cases e; rfl
  subst e'
  exact k _ (Rel.set hc r q) fun vs hv => wipe_set (hv i (by simp [Tgt.slots]))
/-- names, one after another -/
def gNames : List Nat → TGs
  | [] => gNil
  | i :: is => gCons (gName i) (gNames is)
theorem gNames_ok {K : KX} : ∀ (is : List Nat) (hc : ∀ i ∈ is, K.can i) (ρ : List Addr) (env : Env) (h : PH) (σ : L2.St) (H : Hp) (ds : List D) (vs : List V) (Q : L2.St → Hp → Prop), Rel K ρ env h σ H → RL K ρ H h.cs.length ds vs → ds.length = is.length →
    (∀ σ', Rel K ρ (setAll is ds env) h σ' H → (∀ vs : List Nat, (∀ i ∈ is, i ∈ vs) → wipe σ' vs = wipe σ vs) → Q σ' H) → gNames is vs σ H Q
  | [], hc, ρ, env, h, σ, H, ds, vs, Q, r, q, hl, k => by
    have e : ds = [] := List.eq_nil_of_length_eq_zero hl
    subst e
    exact ⟨q.1.nil, k σ r fun _ _ => rfl⟩
  | i :: is, hc, ρ, env, h, σ, H, [], vs, Q, r, q, hl, k => by simp at hl
  | i :: is, hc, ρ, env, h, σ, H, d :: ds, vs, Q, r, q, hl, k => by
    have i0 := q.1
    unfold IsL at i0
    obtain ⟨x, rest, rfl, h1, h2⟩ := i0
    have l := q.2
    unfold mrL at l
    refine ⟨x, rest, rfl, ?_⟩
    exact gNames_ok is (fun j hj => hc j (List.mem_cons_of_mem _ hj)) ρ _ h _ H ds rest Q (Rel.set (hc i List.mem_cons_self) r ⟨h1, by omega⟩) ⟨h2, by omega⟩ (by simpa using hl) fun σ' r' w => k σ' r' fun vs hv => (w vs fun j hj => hv j (List.mem_cons_of_mem _ hj)).trans (wipe_set (hv i List.mem_cons_self))
def gMany (K : KX) (n : Nat) (t : TGs) : TG := fun v σ H Q => gTup K n t v σ H Q ∨ gLst K n t v σ H Q
theorem tg_many {K : KX} (is : List Nat) (hc : ∀ i ∈ is, K.can i) : TgOk K (.many is) (gMany K is.length (gNames is)) := fun ρ env e1 h σ H d v Q r q e k => by
  have e' : (match itemsS h d with
    | some ds => if ds.length = is.length then some (setAll is ds env) else none
    | none => none) = some e1 := e
  split at e'
  · rename_i ds q2
    split at e'
    · rename_i hl
      have e2 : setAll is ds env = e1 := by cases e'; rfl
      subst e2
      obtain ⟨a, xs, rfl, s, i, l⟩ := itemsS_is ⟨r.heap, r.wf⟩ q2 q
      rcases s with s | s
      · exact .inr ⟨a, xs, rfl, s, by rw [i.length]; exact hl, gNames_ok is hc ρ env h σ H ds xs Q r ⟨i, l⟩ hl k⟩
      · exact .inl ⟨a, xs, rfl, s, by rw [i.length]; exact hl, gNames_ok is hc ρ env h σ H ds xs Q r ⟨i, l⟩ hl k⟩
    · cases e'
  · cases e'
theorem pg_or {e : Expr} {t t' : TG} (h : PG X e t) (h' : PG X e t') : PG X e (fun v σ H Q => t v σ H Q ∨ t' v σ H Q) := ⟨fun pins s σ H v u Q I r q => q.elim (h.run pins s σ H v u Q I r) (h'.run pins s σ H v u Q I r)⟩
def isStarT : Expr → Bool
  | .Starred _ _ => true
  | _ => false
/-- the targets are names -/
theorem assignEach_len : ∀ (es : List Expr) (env : PySem.Env), (∀ e ∈ es, ∃ x p, e = Expr.Name x p) → (assignEach es env).length = es.length ∧ (assignEach es env).findIdx? (·.1) = none
  | [], _, _ => ⟨rfl, rfl⟩
  | e :: es, env, h => by
    obtain ⟨x, p, rfl⟩ := h e List.mem_cons_self
    obtain ⟨h1, h2⟩ := assignEach_len es env fun e he => h e (List.mem_cons_of_mem _ he)
    have z : assignEach (Expr.Name x p :: es) env = (false, assign (Expr.Name x p) env) :: assignEach es env := rfl
    rw [z]
    refine ⟨by rw [List.length_cons, List.length_cons, h1], ?_⟩
    rw [List.findIdx?_cons, h2]; rfl
def asgS (m : EM) (t : Tgt) : SM := fun e h => (m e h).bindS e fun d h1 => match tgt t d e h1 with
  | some e1 => .nxt e1 h1
  | none => .stuck
theorem t_asg {K : KX} {m : EM} {t : Tgt} {g : TG} (hg : TgOk K t g) {D : Ends} {σ : L2.St} {H : Hp} (q : tS K W (asgS m t) D σ H) : tAsg (tE K W m) g D σ H := by
  obtain ⟨ρ, env, h, rl, p⟩ := q
  refine tG_mono (PostS.bind (R := RD K) rl p) fun b H1 ⟨ρ1, h1, a1, x1, ra1, p1⟩ => ?_
  have rl1 := rl.ext x1
  cases e : tgt t a1 env h1 with
  | none => rw [e] at p1; exact p1.elim
  | some e1 =>
    rw [e] at p1
    exact hg ρ1 env e1 h1 σ H1 a1 b D.nx rl1 ra1 e fun σ' r' _ => p1 ρ1 σ' H1 r'.refl r'.eis r'.ewf
theorem ds_set {i : Nat} {x : Str} {e : Expr} {m : EM} {pos pos' : Pos} (hN : X.N.Nodup) (hi : X.N[i]? = some x) (hx : Loc X.env.scope x) (he : DE X W e m) (hn : swapsWith e (some (.Name x pos')) pos.line X.env = pure false) (hf : X.fn x = true ∨ X.env.scope.names.lookup x = some .local) (hc : (kx X W).can i) : DS X W (.Assign [.Name x pos'] e pos) (asgS m (.one i)) :=
  ps_imp (ps_set hN hi hx he hn hf) fun D σ H t => t_asg (tg_one i hc) t
theorem ds_asg {tg e : Expr} {m : EM} {t : Tgt} {g : TG} {pos : Pos} (he : DE X W e m) (hg : PG X tg g) (ok : TgOk (kx X W) t g) (hn : notComp e = true) (hw : swappedStores [tg] e X.env = pure none) (h1 : (assignEach [tg] X.env).map (·.2) = [assign tg X.env]) : DS X W (.Assign [tg] e pos) (asgS m t) :=
  ps_imp (ps_asg he hg (swaps_no hn _ _ _) hw h1) fun D σ H q => t_asg ok q
/-- o[i] = e -/
def setIx (o i d : D) (h : PH) : Option PH := match refLst h o, i with
  | some (n, ds), .int k => (match ixN ds.length k with
    | some j => some (h.put n (.lst (ds.set j d)))
    | none => none)
  | _, _ => none
def sixS (m o i : EM) : SM := fun e h => (m e h).bindS e fun d h1 => (o e h1).bindS e fun x h2 => (i e h2).bindS e fun k h3 => match setIx x k d h3 with
  | some h4 => .nxt e h4
  | none => .stuck
theorem setIx_is {K : KX} {ρ : List Addr} {h h' : PH} {H : Hp} {o i d : D} {x y v : V} {Q : Hp → Prop} (at_ : At K ρ h H) (rx : RD K ρ H h.cs.length o x) (ry : RD K ρ H h.cs.length i y) (rv : RD K ρ H h.cs.length d v) (e : setIx o i d h = some h')
    (k : ∀ H', Ext K ρ H h' ρ H' → Q H') : rSetL x y v H Q := by
  unfold setIx at e
  split at e
  · rename_i n ds j q
    split at e
    · rename_i jj q2
      cases e
      obtain ⟨_, _, a, xs, rfl, ha, h1, i1, l1⟩ := refLst_is at_ q rx
      refine ⟨a, xs, j, jj, rfl, ry.1.int, h1, by rw [i1.length]; exact q2, k _ (put_lst at_ ha (i1.set rv.1 jj) ?_)⟩
      exact Nat.le_trans mrL_set (Nat.max_le.mpr ⟨l1, rv.2⟩)
    · cases e
  · cases e
theorem ds_six {o i e : Expr} {m mo mi : EM} {pos spos : Pos} (he : DE X W e m) (ho : DE X W o mo) (hi : DE X W i mi) (hn : notComp e = true) (hs : isSlice i = false) (ha : ∀ v, assign (.Subscript o i spos) X.env v = (do
      let ov ← holding [v] (eval o X.env)
      let iv ← holding [v, ov] (eval i X.env)
      standAt spos
      holding [v, ov, iv] (setItem ov iv v)
      release [v, ov, iv] [])) (hw : swappedStores [.Subscript o i spos] e X.env = pure none) (h1 : (assignEach [.Subscript o i spos] X.env).map (·.2) = [assign (.Subscript o i spos) X.env]) : DS X W (.Assign [.Subscript o i spos] e pos) (sixS m mo mi) :=
  ps_imp (ps_asg he (pg_sub ho hi set_list ha) (swaps_no hn (some (.Subscript o i spos)) pos.line X.env) hw h1) fun D σ H ⟨ρ, env, h, rl, p⟩ => by
    refine tG_mono (PostS.bind (R := RD (kx X W)) rl p) fun b H1 ⟨ρ1, h1, a1, x1, ra1, p1⟩ => ?_
    have rl1 := rl.ext x1
    refine tG_mono (PostS.bind (R := RD (kx X W)) rl1 p1) fun b2 H2 ⟨ρ2, h2, a2, x2, ra2, p2⟩ => ?_
    have rl2 := rl1.ext x2
    refine tG_mono (PostS.bind (R := RD (kx X W)) rl2 p2) fun b3 H3 ⟨ρ3, h3, a3, x3, ra3, p3⟩ => ?_
    have rl3 := rl2.ext x3
    cases e : setIx a2 a3 a1 h3 with
    | none => rw [e] at p3; exact p3.elim
    | some h4 =>
      rw [e] at p3
      refine setIx_is x3.at (ra2.ext x3 rl2.len) ra3 ((ra1.ext x2 rl1.len).ext x3 rl2.len) e fun H4 x4 => ?_
      have rl4 := rl3.ext x4
      exact p3 ρ3 σ H4 x4 rl4.eis rl4.ewf
end


/-! ### the walked things -/
inductive Src where
  | vals (ds : List D) | cell (n : Nat)
abbrev IM := Env → PH → Res Src
/-- the i-th item: there is none; it is d; not known -/
def Src.item (s : Src) (i : Nat) (h : PH) : Option (Option D) := match s with
  | .vals ds => some ds[i]?
  | .cell n => (match h.cs[n]? with
    | some (.lst ds) => some ds[i]?
    | _ => none)
def Src.fuel (s : Src) (h : PH) : Nat := match s with
  | .vals ds => ds.length + 1
  | .cell n => (match h.cs[n]? with
    | some (.lst ds) => ds.length + 1
    | _ => 0)
/-- an iterator walks it -/
def RS (K : KX) : List Addr → Hp → Nat → Src → It → Prop := fun ρ H n s J => ∀ i ρi hi Hi, Ext K ρ H hi ρi Hi → match s.item i hi with
  | some (some d) => J.go i Hi ∧ ∀ x H', J.yld i Hi x H' → H' = Hi ∧ RD K ρi Hi hi.cs.length d x
  | some none => J.stop i Hi
  | none => True
abbrev DI (X : Cx) (W : WJ) (tg e : Expr) (m : IM) : Prop := PI X tg e (tG (kx X W) W (RS (kx X W)) m)
section
variable {X : Cx} {W : WJ} {tg : Expr}
theorem pi_imp {e : Expr} {t t' : TI} (h : PI X tg e t) (k : ∀ σ H Q, t' σ H Q → t σ H Q) : PI X tg e t' := ⟨fun pins s σ H Q I q => h.run pins s σ H Q I (k σ H Q q)⟩
theorem pi_or {e : Expr} {t t' : TI} (h : PI X tg e t) (h' : PI X tg e t') : PI X tg e (fun σ H Q => t σ H Q ∨ t' σ H Q) := ⟨fun pins s σ H Q I q => q.elim (h.run pins s σ H Q I) (h'.run pins s σ H Q I)⟩
def stuckI : IM := fun _ _ => .stuck
theorem di_stuck {e : Expr} : DI X W tg e stuckI := ⟨fun _ _ _ _ _ _ ⟨_, _, _, _, p⟩ => False.elim p⟩
/-- the signs of a text -/
def signs (x : Str) : List D := x.cps.toList.map fun c => .str ⟨#[c]⟩
def srcF (d : D) (h : PH) : Res Src := match d with
  | .tup ds => .ok (.vals ds) h
  | .frl ds => .ok (.vals ds) h
  | .str x => .ok (.vals (signs x)) h
  | .ref n => (match h.cs[n]? with
    | some (.lst _) => .ok (.cell n) h
    | _ => .stuck)
  | _ => .stuck
def srcE (m : EM) : IM := fun e h => (m e h).bind srcF
theorem IsL.getV {K : KX} {ρ : List Addr} {H : Hp} {ds : List D} {xs : List V} {i : Nat} {d : D} {x : V} (h : IsL K ρ H ds xs) (e : ds[i]? = some d) (e2 : xs[i]? = some x) : Is K ρ H d x := by
  obtain ⟨v, h1, h2⟩ := h.get e
  rw [e2] at h1; cases h1; exact h2
theorem IsL.none {K : KX} {ρ : List Addr} {H : Hp} {ds : List D} {xs : List V} {i : Nat} (h : IsL K ρ H ds xs) (e : ds[i]? = none) : xs.length ≤ i := by
  rw [h.length]; exact List.getElem?_eq_none_iff.mp e
theorem SqT.ext {K : KX} {ρ ρ1 : List Addr} {H H1 : Hp} {h1 : PH} {a : Addr} {xs : List V} (x : Ext K ρ H h1 ρ1 H1) (s : SqT K H a xs) : SqT K H1 a xs := SqT.keep x.kept s
/-- what a value is walked as -/
def WalkV (K : KX) (v : V) (H : Hp) (R : It → Hp → Prop) : Prop := (∃ a, v = .ref a ∧ (∃ xs, SqL K H a xs) ∧ R (Itl K a) H) ∨ (∃ a, v = .ref a ∧ (∃ xs, SqT K H a xs) ∧ R (Itt K a) H) ∨ ∃ x, v = .str x ∧ R (Its x) H
theorem pi_any {l : Expr} {tl : TE} (hl : PE X l tl) : PI X tg l (fun σ H R => tl σ H fun v H1 => WalkV (kx X W) v H1 R) := by
  refine ⟨fun pins s σ H R I h => ?_⟩
  refine thn (hl.run pins s σ H _ I h) fun v s1 ⟨x, H1, I1, r1, q1⟩ => ?_
  have fp : ∀ b ∈ [s1.heap.objs.size], FpOk X pins H1 b := fun b hb => by
    have e : b = s1.heap.objs.size := by simpa using hb
    subst e
    exact I1.fpOk (Nat.le_refl _) (I1.hok.fresh (Nat.le_refl _))
  rcases q1 with ⟨a, e, ⟨xs, hq⟩, q⟩ | ⟨a, e, ⟨xs, hq⟩, q⟩ | ⟨z, e, q⟩
  · subst e
    cases r1
    obtain ⟨its, rv, p, hz⟩ := I1.list hq
    refine wpAny_pyIter_list p.isList ?_
    exact ⟨s1.heap.objs.size, [s1.heap.objs.size], _, _, H1, rfl, I1.kept (t' := s1.toks) fun b o e => Heap.get?_push_of_some _ e, turn_list a _, ⟨_, Heap.get?_push_size _ rfl, rfl, rfl⟩, fp, q⟩
  · subst e
    cases r1
    obtain ⟨its, rv, p, hz⟩ := I1.tuple hq
    refine wpAny_pyIter_tuple (show s1.heap.IsTuple a its.toArray from p) ?_
    exact ⟨s1.heap.objs.size, [s1.heap.objs.size], _, _, H1, rfl, I1.kept (t' := s1.toks) fun b o e => Heap.get?_push_of_some _ e, turn_tuple a _, ⟨_, Heap.get?_push_size _ rfl, rfl, rfl⟩, fp, q⟩
  · subst e
    obtain ⟨t, rfl⟩ := r1
    cases ha : z.cps.all (· < 128)
    · exact wpAny_pyIter_wide ha (pi_one (tk := s1.toks) I1 _ (turn_str _ z t "str_iterator" (.inr rfl)) ⟨_, Heap.get?_push_size _ rfl, rfl, rfl⟩ q)
    · exact wpAny_pyIter_ascii ha (pi_one (tk := s1.toks) I1 _ (turn_str _ z t "str_ascii_iterator" (.inl rfl)) ⟨_, Heap.get?_push_size _ rfl, rfl, rfl⟩ q)
/-- over a tuple, a list, a text -/
theorem di_expr {e : Expr} {m : EM} (he : DE X W e m) : DI X W tg e (srcE m) := pi_imp (pi_any he) fun σ H R ⟨ρ, env, h, rl, p⟩ => by
    refine tG_mono (PostG.bind (R := RD (kx X W)) rl p) fun v H1 ⟨ρ1, h1, d, x1, r1, p1⟩ => ?_
    cases d with
    | tup ds =>
      obtain ⟨a, xs, rfl, s, i⟩ := r1.1.tup
      refine .inr (.inl ⟨a, rfl, ⟨xs, s⟩, p1 ρ1 _ H1 x1.at.refl fun j ρj hj Hj xj => ?_⟩)
      have ij := xj.isL (by rw [x1.at.heap.len]; exact r1.2) i
      show match some ds[j]? with | some (some d) => _ | some none => _ | none => True
      cases e : ds[j]? with
      | some d =>
        obtain ⟨v, e1, e2⟩ := ij.get e
        refine ⟨⟨xs, v, SqT.ext xj s, e1⟩, fun x H' y => ⟨y.1, ij.getV e (y.2 xs (SqT.ext xj s)), ?_⟩⟩
        have l : mrL ds ≤ h1.cs.length := r1.2
        have := mrL_get e; have := xj.le; rw [x1.at.heap.len] at this; omega
      | none => exact ⟨xs, SqT.ext xj s, ij.none e⟩
    | frl ds =>
      obtain ⟨a, xs, rfl, s, i⟩ := r1.1.frl
      refine .inl ⟨a, rfl, ⟨xs, s.sq⟩, p1 ρ1 _ H1 x1.at.refl fun j ρj hj Hj xj => ?_⟩
      have ij := xj.isL (by rw [x1.at.heap.len]; exact r1.2) i
      have sj := (FrzL.keep xj.kept s).sq
      show match some ds[j]? with | some (some d) => _ | some none => _ | none => True
      cases e : ds[j]? with
      | some d =>
        obtain ⟨v, e1, e2⟩ := ij.get e
        refine ⟨⟨xs, v, sj, e1⟩, fun x H' y => ⟨y.1, ij.getV e (y.2 xs sj), ?_⟩⟩
        have l : mrL ds ≤ h1.cs.length := r1.2
        have := mrL_get e; have := xj.le; rw [x1.at.heap.len] at this; omega
      | none => exact ⟨xs, sj, ij.none e⟩
    | str z =>
      refine .inr (.inr ⟨z, r1.1.str, p1 ρ1 _ H1 x1.at.refl fun j ρj hj Hj xj => ?_⟩)
      show match some (signs z)[j]? with | some (some d) => _ | some none => _ | none => True
      unfold signs
      rw [List.getElem?_map]
      cases e : z.cps.toList[j]? with
      | some c =>
        have hj' : j < z.cps.size := by
          have := (List.getElem?_eq_some_iff.mp e).1
          rw [Array.length_toList] at this; exact this
        refine ⟨hj', fun x H' y => ⟨y.1, ?_⟩⟩
        obtain ⟨_, c', e1, e2⟩ := y
        subst e2
        rw [← Array.getElem?_toList, e] at e1
        cases e1
        exact is_str
      | none =>
        have := List.getElem?_eq_none_iff.mp e
        rw [Array.length_toList] at this
        exact this
    | ref n =>
      have p1 : PostG (kx X W) W (RS (kx X W)) σ R ρ1 H1 (match h1.cs[n]? with | some (.lst _) => .ok (.cell n) h1 | _ => .stuck) := p1
      cases e0 : h1.cs[n]? with
      | none => rw [e0] at p1; exact p1.elim
      | some c =>
        rw [e0] at p1
        cases c with
        | lst ds =>
          obtain ⟨a, xs, rfl, ha, hl, i, l⟩ := x1.at.lst e0 r1.1
          refine .inl ⟨a, rfl, ⟨xs, SqL.of hl⟩, p1 ρ1 _ H1 x1.at.refl fun j ρj hj Hj xj => ?_⟩
          show match (match hj.cs[n]? with | some (.lst ds) => some ds[j]? | _ => none) with | some (some d) => _ | some none => _ | none => True
          cases e2 : hj.cs[n]? with
          | none => trivial
          | some c2 =>
            cases c2 with
            | lst es =>
              have haj := xj.at_ n (List.getElem?_eq_some_iff.mp ha).1 a ha
              obtain ⟨a', ys, ea, _, hl2, i2, l2⟩ := xj.at.lst (v := .ref a) e2 (by unfold Is; exact ⟨a, haj, rfl⟩)
              cases ea
              show match some es[j]? with | some (some d) => _ | some none => _ | none => True
              cases e : es[j]? with
              | some d =>
                obtain ⟨v, e1, _⟩ := i2.get e
                refine ⟨⟨ys, v, SqL.of hl2, e1⟩, fun x H' y => ⟨y.1, i2.getV e (y.2 ys (SqL.of hl2)), Nat.le_trans (mrL_get e) l2⟩⟩
              | none => exact ⟨ys, SqL.of hl2, i2.none e⟩
            | inst _ _ => trivial
            | dict _ => trivial
        | inst _ _ => exact p1.elim
        | dict _ => exact p1.elim
    | non => exact p1.elim
    | bl _ => exact p1.elim
    | int _ => exact p1.elim
    | ty _ => exact p1.elim
    | glb _ => exact p1.elim
/-! ranges -/
/-- i, i + c, .. (n of them) -/
def rangeD (i c : Int) (n : Nat) : List D := (List.range n).map fun (k : Nat) => .int (i + (k : Int) * c)
def in62 (i : Int) : Bool := Nat.ble i.natAbs 4611686018427387903
theorem in62_is {i : Int} (h : in62 i = true) : -(2 ^ 62) ≤ i ∧ i < 2 ^ 62 := by
  have z : i.natAbs ≤ 4611686018427387903 := Nat.le_of_ble_eq_true h
  omega
theorem rs_range {K : KX} {ρ : List Addr} {H : Hp} {m : Nat} {i c : Int} {n : Nat} {J : It} (hgo : ∀ k H', k < n → J.go k H') (hy : ∀ k H' x H'', J.yld k H' x H'' → H'' = H' ∧ x = .int (i + (k : Nat) * c)) (hs : ∀ k H', n ≤ k → J.stop k H') : RS K ρ H m (.vals (rangeD i c n)) J := fun k ρk hk Hk xk => by
  show match some (rangeD i c n)[k]? with | some (some d) => _ | some none => _ | none => True
  unfold rangeD
  rw [List.getElem?_map]
  cases e : (List.range n)[k]? with
  | some z =>
    have hl := (List.getElem?_eq_some_iff.mp e).1
    rw [List.length_range] at hl
    rw [List.getElem?_range hl] at e
    cases e
    refine ⟨hgo k Hk hl, fun x H' y => ?_⟩
    obtain ⟨y1, y2⟩ := hy k Hk x H' y
    rw [y2]
    exact ⟨y1, is_int⟩
  | none =>
    have := List.getElem?_eq_none_iff.mp e
    rw [List.length_range] at this
    exact hs k Hk this
def rangeF1 (ds : List D) (h : PH) : Res Src := match ds with
  | [.int j] => if in62 j = true then .ok (.vals (rangeD 0 1 j.toNat)) h else .stuck
  | _ => .stuck
def rangeF2 (ds : List D) (h : PH) : Res Src := match ds with
  | [.int i, .int j] => if in62 i = true ∧ in62 j = true then .ok (.vals (rangeD i 1 (j - i).toNat)) h else .stuck
  | _ => .stuck
def rangeF3 (ds : List D) (h : PH) : Res Src := match ds with
  | [.int i, .int j, .int c] => if c = -1 ∧ in62 i = true ∧ in62 j = true then .ok (.vals (rangeD i (-1) (i - j).toNat)) h else .stuck
  | _ => .stuck
def rngE (f : List D → PH → Res Src) (m : AM) : IM := fun e h => (m e h).bind f
theorem IsL.two {K : KX} {ρ : List Addr} {H : Hp} {d e : D} {xs : List V} (h : IsL K ρ H [d, e] xs) : ∃ v u, xs = [v, u] ∧ Is K ρ H d v ∧ Is K ρ H e u := by
  unfold IsL at h
  obtain ⟨x, r, rfl, h1, h2⟩ := h
  obtain ⟨u, rfl, h3⟩ := h2.one
  exact ⟨x, u, rfl, h1, h3⟩
theorem di_range1 {a : Expr} {p pos : Pos} {m : AM} (hg : Gl X "range") (hm : X.mg "range" = none) (ha : DA X W [a] m) (hs : noStars [a] = true) : DI X W tg (.Call (.Name "range" p) [a] [] pos) (rngE rangeF1 m) :=
  pi_imp (pi_range1 hg hm ha (star_no (noStars_head hs).1 [] _)) fun σ H R ⟨ρ, env, h, rl, p⟩ => by
    refine tG_mono (PostG.bind (R := RL (kx X W)) rl p) fun vs H1 ⟨ρ1, h1, d, x1, r1, p1⟩ => ?_
    unfold rangeF1 at p1
    split at p1
    · rename_i j
      split at p1
      · rename_i c
        obtain ⟨v, rfl, iv⟩ := r1.1.one
        obtain ⟨c1, c2⟩ := in62_is c
        exact ⟨j, by rw [iv.int], c1, c2, p1 ρ1 _ H1 x1.at.refl (rs_range (fun k H' hk => hk) (fun k H' x H'' y => ⟨y.1, by rw [y.2, Int.mul_one]⟩) fun k H' hk => hk)⟩
      · exact p1.elim
    · exact p1.elim
theorem di_range2 {a b : Expr} {p pos : Pos} {m : AM} (hg : Gl X "range") (hm : X.mg "range" = none) (ha : DA X W [a, b] m) (hs : noStars [a, b] = true) : DI X W tg (.Call (.Name "range" p) [a, b] [] pos) (rngE rangeF2 m) :=
  pi_imp (pi_range2 hg hm ha (by rw [star_no (noStars_head hs).1 [b] _, star_no (noStars_head (noStars_head hs).2).1 [] _]; rfl) (star_no (noStars_head (noStars_head hs).2).1 [] _)) fun σ H R ⟨ρ, env, h, rl, p⟩ => by
    refine tG_mono (PostG.bind (R := RL (kx X W)) rl p) fun vs H1 ⟨ρ1, h1, d, x1, r1, p1⟩ => ?_
    unfold rangeF2 at p1
    split at p1
    · rename_i i j
      split at p1
      · rename_i c
        obtain ⟨v, u, rfl, iv, iu⟩ := r1.1.two
        obtain ⟨c1, c2⟩ := in62_is c.1
        obtain ⟨c3, c4⟩ := in62_is c.2
        exact ⟨i, j, by rw [iv.int, iu.int], ⟨c1, c2, c3, c4⟩, p1 ρ1 _ H1 x1.at.refl (rs_range (fun k H' hk => hk) (fun k H' x H'' y => ⟨y.1, by rw [y.2, Int.mul_one]⟩) fun k H' hk => hk)⟩
      · exact p1.elim
    · exact p1.elim
theorem di_range3 {a b c : Expr} {p pos : Pos} {m : AM} (hg : Gl X "range") (hm : X.mg "range" = none) (ha : DA X W [a, b, c] m) (hs : noStars [a, b, c] = true) : DI X W tg (.Call (.Name "range" p) [a, b, c] [] pos) (rngE rangeF3 m) :=
  pi_imp (pi_range3 hg hm ha (star_no (noStars_head hs).1 [b, c] _) (noStars_any (noStars_head hs).2 pos _)) fun σ H R ⟨ρ, env, h, rl, p⟩ => by
    refine tG_mono (PostG.bind (R := RL (kx X W)) rl p) fun vs H1 ⟨ρ1, h1, d, x1, r1, p1⟩ => ?_
    unfold rangeF3 at p1
    split at p1
    · rename_i i j k
      split at p1
      · rename_i cc
        obtain ⟨cc0, cc1, cc2⟩ := cc
        subst cc0
        have r0 := r1.1
        unfold IsL at r0
        obtain ⟨v, r, rfl, iv, r0⟩ := r0
        obtain ⟨u, w, rfl, iu, iw⟩ := r0.two
        obtain ⟨c1, c2⟩ := in62_is cc1
        obtain ⟨c3, c4⟩ := in62_is cc2
        exact ⟨i, j, -1, (i - j).toNat, by rw [iv.int, iu.int, iw.int], RgC.neg c1 c2 c3 c4, p1 ρ1 _ H1 x1.at.refl (rs_range (fun k H' hk => hk) (fun k H' x H'' y => ⟨y.1, y.2⟩) fun k H' hk => hk)⟩
      · exact p1.elim
    · exact p1.elim
/-! reversed(x), x a tuple or a known list -/
def revSrc (d : D) (h : PH) : Res Src := match d with
  | .tup ds => .ok (.vals ds.reverse) h
  | .frl ds => .ok (.vals ds.reverse) h
  | _ => .stuck
def revE (m : EM) : IM := fun e h => (m e h).bind revSrc
theorem rev_get {α : Type} (ds : List α) (j : Nat) (h : j < ds.length) : ds.reverse[j]? = ds[ds.length - 1 - j]? := by
  rw [List.getElem?_reverse h]
theorem di_rev {e : Expr} {p pos : Pos} {m : EM} (hg : Gl X "reversed") (hm : X.mg "reversed" = none) (he : DE X W e m) (hs : noStars [e] = true) : DI X W tg (.Call (.Name "reversed" p) [e] [] pos) (revE m) :=
  pi_imp (RT.pi_revA hg hm he (star_no (noStars_head hs).1 [] _)) fun σ H R ⟨ρ, env, h, rl, p⟩ => by
    refine tG_mono (PostG.bind (R := RD (kx X W)) rl p) fun v H1 ⟨ρ1, h1, d, x1, r1, p1⟩ => ?_
    cases d with
    | tup ds =>
      obtain ⟨a, xs, rfl, s, i⟩ := r1.1.tup
      refine ⟨a, xs, rfl, .inr ⟨s, p1 ρ1 _ H1 x1.at.refl fun j ρj hj Hj xj => ?_⟩⟩
      have ij := xj.isL (by rw [x1.at.heap.len]; exact r1.2) i
      have sj := SqT.ext xj s
      show match some ds.reverse[j]? with | some (some d) => _ | some none => _ | none => True
      by_cases hlt : j < ds.length
      · rw [rev_get ds j hlt]
        cases e : ds[ds.length - 1 - j]? with
        | some d =>
          obtain ⟨v, e1, e2⟩ := ij.get e
          rw [← i.length] at e1
          refine ⟨⟨by rw [i.length]; exact hlt, xs, v, sj, e1⟩, fun x H' y => ⟨y.1, ?_, ?_⟩⟩
          · have := y.2 xs sj
            rw [e1] at this; cases this; exact e2
          · have l : mrL ds ≤ h1.cs.length := r1.2
            have := mrL_get e; have := xj.le; rw [x1.at.heap.len] at this; omega
        | none => have := List.getElem?_eq_none_iff.mp e; omega
      · have e : ds.reverse[j]? = none := List.getElem?_eq_none (by rw [List.length_reverse]; omega)
        rw [e]
        show xs.length ≤ j
        rw [i.length]; omega
    | frl ds =>
      obtain ⟨a, xs, rfl, s, i⟩ := r1.1.frl
      refine ⟨a, xs, rfl, .inl ⟨s.sq, p1 ρ1 _ H1 x1.at.refl fun j ρj hj Hj xj => ?_⟩⟩
      have ij := xj.isL (by rw [x1.at.heap.len]; exact r1.2) i
      have sj := (FrzL.keep xj.kept s).sq
      show match some ds.reverse[j]? with | some (some d) => _ | some none => _ | none => True
      by_cases hlt : j < ds.length
      · rw [rev_get ds j hlt]
        cases e : ds[ds.length - 1 - j]? with
        | some d =>
          obtain ⟨v, e1, e2⟩ := ij.get e
          rw [← i.length] at e1
          refine ⟨⟨by rw [i.length]; exact hlt, xs, v, sj, e1⟩, fun x H' y => ⟨y.1, ?_, ?_⟩⟩
          · have := y.2 xs sj
            rw [e1] at this; cases this; exact e2
          · have l : mrL ds ≤ h1.cs.length := r1.2
            have := mrL_get e; have := xj.le; rw [x1.at.heap.len] at this; omega
        | none => have := List.getElem?_eq_none_iff.mp e; omega
      · have e : ds.reverse[j]? = none := List.getElem?_eq_none (by rw [List.length_reverse]; omega)
        rw [e]
        show xs.length ≤ j
        rw [i.length]; omega
    | _ => exact p1.elim

/-! ### for -/
def mrE : Env → Nat
  | [] => 0
  | some d :: r => max d.mr (mrE r)
  | none :: r => mrE r
theorem mrE_wf : ∀ {env : Env} {n : Nat}, mrE env ≤ n → EnvWf env n
  | [], n, _ => fun i d e => by simp at e
  | o :: r, n, h => fun i d e => by
    cases i with
    | zero =>
      have e' : o = some d := by simpa using e
      subst e'
      unfold mrE at h; omega
    | succ i =>
      have e' : r[i]? = some (some d) := by simpa using e
      have h' : mrE r ≤ n := by cases o <;> unfold mrE at h <;> omega
      exact mrE_wf h' i d e'
theorem mrE_of : ∀ {env : Env} {n : Nat}, EnvWf env n → mrE env ≤ n
  | [], n, _ => Nat.zero_le _
  | o :: r, n, h => by
    have h2 := mrE_of (env := r) (n := n) fun i d e => h (i + 1) d (by simpa using e)
    cases o with
    | none => exact h2
    | some d =>
      have := h 0 d (by simp)
      unfold mrE; omega
/-- the state behind a turn: what nothing names any more is dropped -/
def PH.gc (h : PH) (l : Nat) (env : Env) : PH := h.cut (max l (max h.lim (mrE env)))
def forL (t : Tgt) (body : SM) (s : Src) (l : Nat) : Nat → Nat → Env → PH → Out
  | 0, _, _, _ => .stuck
  | f + 1, i, e, h => match s.item i h with
    | none => .stuck
    | some none => .nxt e h
    | some (some d) => (match tgt t d e h with
      | none => .stuck
      | some e1 => (match body e1 h with
        | .nxt e2 h2 => forL t body s l f (i + 1) e2 (h2.gc l e2)
        | .cnt e2 h2 => forL t body s l f (i + 1) e2 (h2.gc l e2)
        | .brk e2 h2 => .nxt e2 h2
        | .ret d h2 => .ret d h2
        | .exc c e2 h2 => .exc c e2 h2
        | .stuck => .stuck))
def forS (m : IM) (t : Tgt) (body : SM) : SM := fun e h => (m e h).bindS e fun s h1 => forL t body s h1.cs.length (s.fuel h1) 0 e h1
theorem EnvIs.cut {K : KX} {ρ : List Addr} {H : Hp} {env : Env} {σ : L2.St} {n : Nat} (w : EnvWf env n) (h : EnvIs K ρ H env σ) : EnvIs K (ρ.take n) H env σ :=
  ⟨h.len, (fun i d e => let ⟨v, e1, e2⟩ := h.at_ i d e; ⟨v, e1, Is.cut (w i d e) e2⟩), h.inv⟩
/-- behind a turn: the state that is cut still goes beyond the loop's start -/
theorem gc_ok {K : KX} {ρ ρ2 : List Addr} {H H2 : Hp} {h2 : PH} {env : Env} {σ : L2.St} (x : Ext K ρ H h2 ρ2 H2) (e : EnvIs K ρ2 H2 env σ) (w : EnvWf env h2.cs.length) :
    ∃ ρ3, Ext K ρ H (h2.gc ρ.length env) ρ3 H2 ∧ EnvIs K ρ3 H2 env σ ∧ EnvWf env (h2.gc ρ.length env).cs.length := by
  have hm : mrE env ≤ max ρ.length (max h2.lim (mrE env)) := by omega
  refine ⟨ρ2.take (max ρ.length (max h2.lim (mrE env))), x.cut (by omega) (by omega), e.cut (mrE_wf hm), ?_⟩
  have h1 := mrE_of w
  have h3 := x.wf.le
  have h4 := x.le
  refine mrE_wf ?_
  show mrE env ≤ (h2.cs.take _).length
  rw [List.length_take]; omega
theorem ds_for {iter tg : Expr} {body : List Stmt} {m : IM} {t : Tgt} {g : TG} {b : SM} {pos : Pos} (hp : PassesOwn (model X.prog X.w) X.A X.env X.xe) (hc : X.calm = true) (hi : DI X W tg iter m) (hg : PG X tg g) (ok : TgOk (kx X W) t g) (hb : DSs X W body b)
    (hs : ∀ x, foldedSetIterable iter X.env x = pure x) : DS X W (.For tg iter body [] pos) (forS m t b) := ps_imp (ps_for hp hc hi hg hb hs) fun D σ H ⟨ρ, env, h, rl, p⟩ => by
  refine tG_mono (PostS.bind (R := RS (kx X W)) rl p) fun J H1 ⟨ρ1, h1, s, x1, rs, p1⟩ => ?_
  have rl1 := rl.ext x1
  rw [← rl1.len] at p1
  refine ⟨fun i n σ' H' => ∃ ρi e hi, Ext (kx X W) ρ1 H1 hi ρi H' ∧ EnvIs (kx X W) ρi H' e σ' ∧ EnvWf e hi.cs.length ∧ PostS (kx X W) W D ρ1 H1 (forL t b s ρ1.length n i e hi), ⟨_, ρ1, env, h1, x1.at.refl, rl1.eis, rl1.ewf, p1⟩, ?_⟩
  rintro i n σ' H' ⟨ρi, e, hi, xi, ei, wi, pi⟩
  cases n with
  | zero => exact pi.elim
  | succ n =>
    have q := rs i ρi hi H' xi
    unfold forL at pi
    split at pi
    · exact pi.elim
    · rename_i e0
      rw [e0] at q
      exact .inl ⟨q, pi ρi σ' H' xi ei wi⟩
    · rename_i d e0
      rw [e0] at q
      obtain ⟨go, yld⟩ := q
      refine .inr ⟨go, fun σ2 H2 => ∃ m', m' < n + 1 ∧ ∃ ρi e hi, Ext (kx X W) ρ1 H1 hi ρi H2 ∧ EnvIs (kx X W) ρi H2 e σ2 ∧ EnvWf e hi.cs.length ∧ PostS (kx X W) W D ρ1 H1 (forL t b s ρ1.length m' (i + 1) e hi), fun σ2 H2 w => w, fun x H'' y => ?_⟩
      obtain ⟨e1, rd⟩ := yld x H'' y
      subst e1
      split at pi
      · exact pi.elim
      · rename_i en1 e2
        have rli : Rel (kx X W) ρi e hi σ' H'' := ⟨ei, xi.rel, xi.wf, wi⟩
        refine ok ρi e en1 hi σ' H'' d x _ rli rd e2 fun σ3 r3 _ => ?_
        refine ⟨ρi, en1, hi, r3, ?_⟩
        split at pi
        · rename_i e4 h4 eb
          rw [eb]
          intro ρ4 σ4 H4 x4 ei4 w4
          obtain ⟨ρ5, x5, ei5, w5⟩ := gc_ok (xi.trans x4) ei4 w4
          exact ⟨n, Nat.lt_succ_self n, ρ5, e4, _, x5, ei5, w5, pi⟩
        · rename_i e4 h4 eb
          rw [eb]
          intro ρ4 σ4 H4 x4 ei4 w4
          obtain ⟨ρ5, x5, ei5, w5⟩ := gc_ok (xi.trans x4) ei4 w4
          exact ⟨n, Nat.lt_succ_self n, ρ5, e4, _, x5, ei5, w5, pi⟩
        · rename_i e4 h4 eb
          rw [eb]
          exact fun ρ4 σ4 H4 x4 ei4 w4 => pi ρ4 σ4 H4 (xi.trans x4) ei4 w4
        · rename_i d4 h4 eb
          rw [eb]
          exact fun ρ4 v4 H4 x4 r4 => pi ρ4 v4 H4 (xi.trans x4) r4
        · rename_i c4 e4 h4 eb
          rw [eb]
          exact fun ρ4 σ4 H4 x4 ei4 w4 => pi ρ4 σ4 H4 (xi.trans x4) ei4 w4
        · exact pi.elim
/-! ### while -/
def whileL (t : TM) (body : SM) (l : Nat) : Nat → Env → PH → Out
  | 0, _, _ => .stuck
  | f + 1, e, h => (t e h).bindS e fun c h1 => match c with
    | false => .nxt e h1
    | true => (match body e h1 with
        | .nxt e2 h2 => whileL t body l f e2 (h2.gc l e2)
        | .cnt e2 h2 => whileL t body l f e2 (h2.gc l e2)
        | .brk e2 h2 => .nxt e2 h2
        | .ret d h2 => .ret d h2
        | .exc c e2 h2 => .exc c e2 h2
        | .stuck => .stuck)
def whileS (f : Nat) (t : TM) (body : SM) : SM := fun e h => whileL t body h.cs.length f e h
theorem PostS.bind2 {K : KX} {α β : Type} {R : List Addr → Hp → Nat → α → β → Prop} {σ : L2.St} {ρ ρi : List Addr} {H H' : Hp} {hi : PH} {env : Env} {m : Env → PH → Res α} {k : α → PH → Out} {D : Ends} (x : Ext K ρ H hi ρi H') (r : Rel K ρi env hi σ H') (p : PostS K W D ρ H ((m env hi).bindS env k)) :
    tG K W R m σ H' fun b H1 => ∃ ρ1 h1 a, Ext K ρi H' h1 ρ1 H1 ∧ R ρ1 H1 h1.cs.length a b ∧ PostS K W D ρ H (k a h1) := by
  refine ⟨ρi, env, hi, r, ?_⟩
  cases e : m env hi with
  | ok a h1 =>
    rw [e] at p
    exact fun ρ' b H' x rb => ⟨ρ', h1, a, x, rb, p⟩
  | exc c h1 =>
    rw [e] at p
    exact fun ρ' H2 x2 => p ρ' σ H2 (x.trans x2) (x2.envIs (by rw [r.len]; exact r.ewf) r.eis) (r.ewf.mono (by have := x2.le; rw [r.len] at this; exact this))
  | stuck =>
    rw [e] at p
    exact p
theorem ds_while {f : Nat} {c : Expr} {body : List Stmt} {t : TM} {b : SM} {pos : Pos} (hp : PassesOwn (model X.prog X.w) X.A X.env X.xe) (hc : DT X W c t) (hb : DSs X W body b) : DS X W (.While c body [] pos) (whileS f t b) := ps_imp (ps_while hp hc hb) fun D σ H ⟨ρ, env, h, rl, p⟩ => by
  unfold whileS at p
  rw [← rl.len] at p
  refine ⟨fun n σ' H' => ∃ ρi e hi, Ext (kx X W) ρ H hi ρi H' ∧ EnvIs (kx X W) ρi H' e σ' ∧ EnvWf e hi.cs.length ∧ PostS (kx X W) W D ρ H (whileL t b ρ.length n e hi), ⟨_, ρ, env, h, rl.refl, rl.eis, rl.ewf, p⟩, ?_⟩
  rintro n σ' H' ⟨ρi, e, hi, xi, ei, wi, pi⟩
  cases n with
  | zero => exact pi.elim
  | succ n =>
    have rli : Rel (kx X W) ρi e hi σ' H' := ⟨ei, xi.rel, xi.wf, wi⟩
    unfold whileL at pi
    refine tG_mono (PostS.bind2 (R := RB) xi rli pi) fun k H1 ⟨ρ1, h1, d, x1, r1, p1⟩ => ?_
    have e0 : d = k := r1
    subst e0
    have rl1 := rli.ext x1
    have xi1 := xi.trans x1
    cases d with
    | false => exact iteF (p1 ρ1 σ' H1 xi1 rl1.eis rl1.ewf)
    | true =>
      refine iteT ⟨fun σ2 H2 => ∃ m', m' < n + 1 ∧ ∃ ρi e hi, Ext (kx X W) ρ H hi ρi H2 ∧ EnvIs (kx X W) ρi H2 e σ2 ∧ EnvWf e hi.cs.length ∧ PostS (kx X W) W D ρ H (whileL t b ρ.length m' e hi), fun σ2 H2 w => w, ?_⟩
      refine ⟨ρ1, e, h1, rl1, ?_⟩
      dsimp only at p1
      split at p1
      · rename_i e4 h4 eb
        rw [eb]
        intro ρ4 σ4 H4 x4 ei4 w4
        obtain ⟨ρ5, x5, ei5, w5⟩ := gc_ok (xi1.trans x4) ei4 w4
        exact ⟨n, Nat.lt_succ_self n, ρ5, e4, _, x5, ei5, w5, p1⟩
      · rename_i e4 h4 eb
        rw [eb]
        intro ρ4 σ4 H4 x4 ei4 w4
        obtain ⟨ρ5, x5, ei5, w5⟩ := gc_ok (xi1.trans x4) ei4 w4
        exact ⟨n, Nat.lt_succ_self n, ρ5, e4, _, x5, ei5, w5, p1⟩
      · rename_i e4 h4 eb
        rw [eb]
        exact fun ρ4 σ4 H4 x4 ei4 w4 => p1 ρ4 σ4 H4 (xi1.trans x4) ei4 w4
      · rename_i d4 h4 eb
        rw [eb]
        exact fun ρ4 v4 H4 x4 r4 => p1 ρ4 v4 H4 (xi1.trans x4) r4
      · rename_i c4 e4 h4 eb
        rw [eb]
        exact fun ρ4 σ4 H4 x4 ei4 w4 => p1 ρ4 σ4 H4 (xi1.trans x4) ei4 w4
      · exact p1.elim
end
end Dy

/-! Comprehensions, raise, try. -/
namespace Dy
open PySem PySem.Spec PyProof.Rows L2
section
variable {X : Cx} {W : WJ}
def noX {α : Type} : Res α → Res α
  | .ok a h => .ok a h
  | .exc _ _ => .stuck
  | .stuck => .stuck
def wipeE (e : Env) : List Nat → Env
  | [] => e
  | v :: vs => (wipeE e vs).set v none
def compL (t : Tgt) (tst : TM) (elt : EM) (s : Src) (e0 : Env) : Nat → Nat → PH → Res (List D)
  | 0, _, _ => .stuck
  | f + 1, i, h => match s.item i h with
    | none => .stuck
    | some none => .ok [] h
    | some (some d) => (match tgt t d e0 h with
      | none => .stuck
      | some e1 => (tst e1 h).bind fun c h1 => match c with
        | true => (elt e1 h1).bind fun v h2 => (compL t tst elt s e0 f (i + 1) (h2.cut (max h.cs.length (max h2.lim v.mr)))).bind fun vs h3 => .ok (v :: vs) h3
        | false => compL t tst elt s e0 f (i + 1) (h1.cut (max h.cs.length h1.lim)))
def finL (ds : List D) (h : PH) : Res D := if ds.length ≤ 16777216 then newL ds h else .stuck
def compE (m : IM) (own : List Nat) (t : Tgt) (tst : TM) (elt : EM) : EM := fun e h => (m e h).bind fun s h1 => (noX (compL t tst elt s (wipeE e own) (s.fuel h1) 0 h1)).bind finL
def yesT : TM := fun _ h => .ok true h

theorem EnvIs.wipe {K : KX} {ρ : List Addr} {H : Hp} {env : Env} {σ : L2.St} (hj : ∀ σ, K.J σ) (h : EnvIs K ρ H env σ) : ∀ vs : List Nat, EnvIs K ρ H (wipeE env vs) (L2.wipe σ vs)
  | [] => h
  | v :: vs => by
    have ih := EnvIs.wipe hj h vs
    refine ⟨by show ((wipeE env vs).set v none).length = ((L2.wipe σ vs).set v none).length; rw [List.length_set, List.length_set]; exact ih.len, fun i d e => ?_, hj _⟩
    have e : ((wipeE env vs).set v none)[i]? = some (some d) := e
    by_cases hv : v = i
    · subst hv
      by_cases hl : v < (wipeE env vs).length
      · rw [List.getElem?_set_self hl] at e; cases e
      · rw [List.getElem?_eq_none (by rw [List.length_set]; omega)] at e; cases e
    · rw [List.getElem?_set_ne hv] at e
      obtain ⟨x, e1, e2⟩ := ih.at_ i d e
      refine ⟨x, ?_, e2⟩
      show ((L2.wipe σ vs).set v none)[i]? = _
      rw [List.getElem?_set_ne hv]; exact e1
theorem EnvWf.wipe {env : Env} {n : Nat} (w : EnvWf env n) : ∀ vs : List Nat, EnvWf (wipeE env vs) n
  | [] => w
  | v :: vs => fun i d e => by
    have e : ((wipeE env vs).set v none)[i]? = some (some d) := e
    by_cases hv : v = i
    · subst hv
      by_cases hl : v < (wipeE env vs).length
      · rw [List.getElem?_set_self hl] at e; cases e
      · rw [List.getElem?_eq_none (by rw [List.length_set]; omega)] at e; cases e
    · rw [List.getElem?_set_ne hv] at e
      exact EnvWf.wipe w vs i d e
/-- a tracked list beside the cells is changed -/
theorem Ext.side {K : KX} {ρ ρ1 : List Addr} {H H1 : Hp} {h1 : PH} {p : Addr} {xs ys : List V} (x : Ext K ρ H h1 ρ1 H1) (np : H p = none) (nr : p ∉ ρ1) (hp : H1 p = some (.lst xs)) : Ext K ρ H h1 ρ1 (upd H1 p (.lst ys)) := by
  have k : TupsKeep H1 (upd H1 p (.lst ys)) := keep_old hp (fun _ z => by cases z) (fun _ _ z => by cases z)
  refine ⟨x.pre, x.fresh, fun a o na e => ?_, x.kept.trans k, ⟨x.rel.len, x.rel.nd, fun n c a e1 e2 => ?_⟩, x.wf⟩
  · have ha : a ≠ p := ne_of_none e np
    rw [upd_ne ha]; exact x.frame a o na e
  · have hm : a ∈ ρ1 := List.mem_of_getElem? e2
    have ha : a ≠ p := fun z => nr (z ▸ hm)
    exact CellIs.mono (ρ := ρ1) (H := H1) k (max n h1.lim) (fun i _ x hx => hx) (x.wf.at_ n c e1) (upd_ne ha) (x.rel.at_ n c a e1 e2)
/-- it becomes a cell -/
theorem Ext.adopt {K : KX} {ρ ρ1 : List Addr} {H H1 : Hp} {h1 : PH} {p : Addr} {xs : List V} {ds : List D} (x : Ext K ρ H h1 ρ1 H1) (np : H p = none) (nr : p ∉ ρ1) (hp : H1 p = some (.lst xs)) (i : IsL K ρ1 H1 ds xs) (l : mrL ds ≤ h1.cs.length) :
    Ext K ρ H (h1.push (.lst ds)) (ρ1 ++ [p]) H1 ∧ RD K (ρ1 ++ [p]) H1 (h1.push (.lst ds)).cs.length (.ref h1.cs.length) (.ref p) := by
  obtain ⟨m, e⟩ := x.pre
  have hlen := x.rel.len
  refine ⟨⟨⟨m ++ [p], by rw [e, List.append_assoc]⟩, fun a h2 h3 => ?_, x.frame, x.kept, ⟨?_, ?_, fun n c a e1 e2 => ?_⟩, x.wf.push l⟩, ?_, ?_⟩
  · rcases List.mem_append.mp h2 with z | z
    · exact x.fresh a z h3
    · have : a = p := by simpa using z
      rw [this]; exact np
  · show (ρ1 ++ [p]).length = (h1.cs ++ [Cell.lst ds]).length
    rw [List.length_append, List.length_append, hlen]; rfl
  · refine List.nodup_append.mpr ⟨x.rel.nd, by simp, fun a ha b hb z => ?_⟩
    have : b = p := by simpa using hb
    subst this
    exact nr (z ▸ ha)
  · have e1 : (h1.cs ++ [Cell.lst ds])[n]? = some c := e1
    by_cases hn : n < h1.cs.length
    · rw [List.getElem?_append_left hn] at e1
      rw [List.getElem?_append_left (by rw [hlen]; exact hn)] at e2
      refine CellIs.mono (ρ := ρ1) (H := H1) (TupsKeep.refl _) (max n h1.lim) (fun i _ x hx => ?_) (x.wf.at_ n c e1) rfl (x.rel.at_ n c a e1 e2)
      rw [List.getElem?_append_left (List.getElem?_eq_some_iff.mp hx).1]; exact hx
    · rw [List.getElem?_append_right (by omega)] at e1
      have hz : n = h1.cs.length := by
        rcases Nat.eq_zero_or_pos (n - h1.cs.length) with z | z
        · omega
        · rw [List.getElem?_eq_none (by simp; omega)] at e1; cases e1
      subst hz
      rw [← hlen, List.getElem?_append_right (Nat.le_refl _), Nat.sub_self] at e2
      rw [Nat.sub_self] at e1
      have ea : p = a := by simpa using e2
      have ec : Cell.lst ds = c := by simpa using e1
      subst ea; subst ec
      exact ⟨xs, hp, IsL.mono (TupsKeep.refl _) ρ1.length (fun i hi a ha => by rw [List.getElem?_append_left hi]; exact ha) ds xs (by rw [hlen]; exact l) i⟩
  · unfold Is
    exact ⟨p, by rw [← hlen, List.getElem?_append_right (Nat.le_refl _), Nat.sub_self]; rfl, rfl⟩
  · unfold D.mr
    show _ ≤ (h1.cs ++ [Cell.lst ds]).length
    rw [List.length_append]; exact Nat.le_refl _
theorem IsL.cutR {K : KX} {ρ : List Addr} {H : Hp} {n : Nat} {d : List D} {v : List V} (l : mrL d ≤ n) (x : IsL K ρ H d v) : IsL K (ρ.take n) H d v :=
  IsL.mono (TupsKeep.refl _) n (fun i hi a ha => by rw [List.getElem?_take_of_lt hi]; exact ha) d v l x

/-- the whole of a comprehension's reading -/
abbrev W0 : WJ := ⟨fun _ _ _ _ => False, none⟩
theorem t_comp {K : KX} (hj : ∀ σ, K.J σ) {m : IM} {own : List Nat} {t : Tgt} {tst : TM} {elt : EM} {g : TG} (ok : TgOk K t g) (ho : ∀ i ∈ t.slots, i ∈ own) {σ : L2.St} {H : Hp} {Q : VK} (q : tE K W (compE m own t tst elt) σ H Q) :
    tLc (tG K W (RS K) m) g (tT K W0 tst) (tE K W0 elt) own σ H Q := by
  obtain ⟨ρ, env, h, rl, p⟩ := q
  refine tG_mono (PostG.bind (R := RS K) rl p) fun J H1 ⟨ρ1, h1, s, x1, rs, p1⟩ p0 np => ?_
  have rl1 := rl.ext x1
  have np1 : p0 ∉ ρ1 := rl1.heap.fresh (h := h1) np
  refine ⟨fun i n H' => ∃ ρi hi acc accV, Ext K ρ1 H1 hi ρi H' ∧ p0 ∉ ρi ∧ H' p0 = some (.lst accV) ∧ IsL K ρi H' acc accV ∧ mrL acc ≤ hi.cs.length ∧ PostG K W (RD K) σ Q ρ1 H1 ((noX (compL t tst elt s (wipeE env own) n i hi)).bind fun vs h' => finL (acc ++ vs) h'),
    ⟨_, ρ1, h1, [], [], Ext.obj rl1.heap rl1.wf np, np1, upd_same, by unfold IsL; rfl, Nat.zero_le _, p1⟩, ?_⟩
  rintro i n H' ⟨ρi, hi, acc, accV, xi, npi, hp, ia, la, pi⟩
  cases n with
  | zero => exact pi.elim
  | succ n =>
    have q := rs i ρi hi H' xi
    unfold compL at pi
    split at pi
    · exact pi.elim
    · rename_i e0
      rw [e0] at q
      refine .inl ⟨q, ?_⟩
      have pi : PostG K W (RD K) σ Q ρ1 H1 (finL (acc ++ []) hi) := pi
      rw [List.append_nil] at pi
      unfold finL at pi
      split at pi
      · obtain ⟨y1, y2⟩ := xi.adopt np npi hp ia la
        exact pi _ _ H' y1 y2
      · exact pi.elim
    · rename_i d e0
      rw [e0] at q
      obtain ⟨go, yld⟩ := q
      refine .inr ⟨go, fun H2 => ∃ m', m' < n + 1 ∧ ∃ ρi hi acc accV, Ext K ρ1 H1 hi ρi H2 ∧ p0 ∉ ρi ∧ H2 p0 = some (.lst accV) ∧ IsL K ρi H2 acc accV ∧ mrL acc ≤ hi.cs.length ∧ PostG K W (RD K) σ Q ρ1 H1 ((noX (compL t tst elt s (wipeE env own) m' (i + 1) hi)).bind fun vs h' => finL (acc ++ vs) h'), fun H2 w => w, fun x H'' y => ?_⟩
      obtain ⟨e1, rd⟩ := yld x H'' y
      subst e1
      split at pi
      · exact pi.elim
      · rename_i en1 e2
        have rli := rl1.ext xi
        have rlw : Rel K ρi (wipeE env own) hi (wipe σ own) H'' := ⟨EnvIs.wipe hj rli.eis own, rli.heap, rli.wf, rli.ewf.wipe own⟩
        refine ok ρi _ en1 hi (wipe σ own) H'' d x _ rlw rd e2 fun σ3 r3 w3 => ?_
        have ww : wipe σ3 own = wipe σ own := by
          rw [w3 own ho]
          apply List.ext_getElem?
          intro j
          rw [wipe_get, wipe_get, wipe_length]
          split <;> rfl
        refine ⟨ww, ρi, en1, hi, r3, ?_⟩
        cases et : tst en1 hi with
        | stuck => rw [et] at pi; exact pi.elim
        | exc c h2 => rw [et] at pi; exact pi.elim
        | ok b h2 =>
          rw [et] at pi
          intro ρ4 b4 H4 x4 rb
          have eb : b = b4 := rb
          subst eb
          have np4 : p0 ∉ ρ4 := fun z => by have := x4.fresh p0 z npi; rw [hp] at this; cases this
          have hp4 := x4.frame p0 _ npi hp
          have ia4 := x4.isL (by rw [xi.rel.len]; exact la) ia
          cases b with
          | false =>
            refine iteF ?_
            have l4 := x4.le
            rw [xi.rel.len] at l4
            have l5 := xi.le
            have x5 := (xi.trans x4).cut (n := max hi.cs.length h2.lim) (by omega) (by omega)
            have wf := x4.wf.le
            refine ⟨n, Nat.lt_succ_self n, ρ4.take (max hi.cs.length h2.lim), h2.cut (max hi.cs.length h2.lim), acc, accV, x5, fun z => np4 (List.mem_of_mem_take z), hp4, IsL.cutR (by omega) ia4, ?_, pi⟩
            show mrL acc ≤ (h2.cs.take _).length
            rw [List.length_take]; omega
          | true =>
            refine iteT ?_
            have rl4 := r3.ext x4
            refine ⟨ρ4, en1, h2, rl4, ?_⟩
            dsimp only [Res.bind] at pi
            cases ee : elt en1 h2 with
            | stuck => rw [ee] at pi; exact pi.elim
            | exc c h3 => rw [ee] at pi; exact pi.elim
            | ok v h3 =>
              rw [ee] at pi
              intro ρ5 y5 H5 x5 r5
              have np5 : p0 ∉ ρ5 := fun z => by have := x5.fresh p0 z np4; rw [hp4] at this; cases this
              have hp5 := x5.frame p0 _ np4 hp4
              have l4 := x4.le
              rw [xi.rel.len] at l4
              have l5 := x5.le
              rw [rl4.len] at l5
              have ia5 := x5.isL (by rw [rl4.len]; omega) ia4
              have wf5 := x5.wf.le
              have lx := xi.le
              have r52 := r5.2
              have xc := ((xi.trans x4).trans x5).cut (n := max hi.cs.length (max h3.lim v.mr)) (by omega) (by omega)
              have pi : PostG K W (RD K) σ Q ρ1 H1 ((noX ((compL t tst elt s (wipeE env own) n (i + 1) (h3.cut (max hi.cs.length (max h3.lim v.mr)))).bind fun vs h3 => .ok (v :: vs) h3)).bind fun vs h' => finL (acc ++ vs) h') := pi
              have hz : acc.length < 16777216 ∧ PostG K W (RD K) σ Q ρ1 H1 ((noX (compL t tst elt s (wipeE env own) n (i + 1) (h3.cut (max hi.cs.length (max h3.lim v.mr))))).bind fun vs h' => finL ((acc ++ [v]) ++ vs) h') := by
                cases ec : compL t tst elt s (wipeE env own) n (i + 1) (h3.cut (max hi.cs.length (max h3.lim v.mr))) with
                | stuck => rw [ec] at pi; exact pi.elim
                | exc c h6 => rw [ec] at pi; exact pi.elim
                | ok vs h6 =>
                  rw [ec] at pi
                  have pi : PostG K W (RD K) σ Q ρ1 H1 (finL (acc ++ v :: vs) h6) := pi
                  refine ⟨?_, ?_⟩
                  · unfold finL at pi
                    split at pi
                    · rename_i hl
                      rw [List.length_append, List.length_cons] at hl
                      omega
                    · exact pi.elim
                  · show PostG K W (RD K) σ Q ρ1 H1 (finL ((acc ++ [v]) ++ vs) h6)
                    rw [List.append_assoc]; exact pi
              refine ⟨accV, hp5, by rw [sizeLine_eq, ia5.length]; exact hz.1, n, Nat.lt_succ_self n, ρ5.take (max hi.cs.length (max h3.lim v.mr)), h3.cut (max hi.cs.length (max h3.lim v.mr)), acc ++ [v], accV ++ [y5],
                Ext.side xc np (fun z => np5 (List.mem_of_mem_take z)) hp5, fun z => np5 (List.mem_of_mem_take z), upd_same, ?_, ?_, hz.2⟩
              · have k : TupsKeep H5 (upd H5 p0 (.lst (accV ++ [y5]))) := keep_old hp5 (fun _ z => by cases z) (fun _ _ z => by cases z)
                refine IsL.mono k (max hi.cs.length (max h3.lim v.mr)) (fun j _ a ha => ha) _ _ ?_ ?_
                · rw [mrL_append]
                  show max (mrL acc) (max v.mr 0) ≤ _
                  omega
                · refine (IsL.cutR (by omega) ia5).append ?_
                  unfold IsL
                  exact ⟨y5, [], rfl, Is.cut (by omega) r5.1, by unfold IsL; rfl⟩
              · show mrL (acc ++ [v]) ≤ (h3.cs.take _).length
                rw [mrL_append, List.length_take]
                show max (mrL acc) (max v.mr 0) ≤ _
                omega
/-- a comprehension's tests -/
abbrev DTs (X : Cx) (W : WJ) (es : List Expr) (m : TM) : Prop := PTs X es (tT (kx X W) W m)
theorem dts_nil : DTs X W [] yesT := ⟨fun pins s σ H Q I ⟨ρ, env, h, rl, p⟩ => pts_nil.run pins s σ H Q I (p ρ true H rl.refl rfl)⟩
theorem dts_one {c : Expr} {t : TM} (h : DT X W c t) : DTs X W [c] t := pts_one h
abbrev BlkCx (X : Cx) (scope : Scope) (s : Shared) (H : Hp) (C : Addr) (cl : List (Str × Addr)) (fp : List Addr) : Cx := X.blk s H scope (compEnvC scope cl C X.env) fp
theorem de_comp {w : WX} {elt tg iter : Expr} {ifs : List Expr} {scope : Scope} {own : List (Str × Nat)} {pos : Pos} {m : IM} {t : Tgt} {g : TG} {tst : TM} {el : EM} (hc : X.calm = true) (hN : X.N.Nodup) (hi : DI X ⟨w, none⟩ tg iter m) (ok : BlkOk X.N X.env.scope scope own)
    (tk : TgOk ⟨X.K, none⟩ t g) (ho : ∀ i ∈ t.slots, i ∈ own.map (·.2))
    (hg : ∀ s H C cl fp, PG (BlkCx X scope s H C cl fp) tg g) (ht : ∀ s H C cl fp, DTs (BlkCx X scope s H C cl fp) W0 ifs tst) (he : ∀ s H C cl fp, DE (BlkCx X scope s H C cl fp) W0 elt el) (hs : ∀ x, foldedSetIterable iter X.env x = pure x) :
    DE X ⟨w, none⟩ (.ListComp elt [⟨tg, iter, ifs, 0⟩] scope pos) (compE m (own.map (·.2)) t tst el) :=
  pe_imp (pe_lc hc hN hi ok hg ht he hs) fun σ H Q q => t_comp (K := ⟨X.K, none⟩) (fun _ => trivial) tk ho q
theorem ds_setc {w : WX} {i : Nat} {y : Str} {py : Pos} {elt tg iter : Expr} {ifs : List Expr} {scope : Scope} {own : List (Str × Nat)} {pos spos : Pos} {m : IM} {t : Tgt} {g : TG} {tst : TM} {el : EM} (hc : X.calm = true) (hN : X.N.Nodup) (hy : X.N[i]? = some y) (hyl : X.env.scope.names.lookup y = some .local)
    (hsw : swapsWith (.ListComp elt [⟨tg, iter, ifs, 0⟩] scope pos) (some (.Name y py)) spos.line X.env = pure true) (hi : DI X ⟨w, none⟩ tg iter m) (ok : BlkOk X.N X.env.scope scope own)
    (tk : TgOk ⟨X.K, none⟩ t g) (ho : ∀ i ∈ t.slots, i ∈ own.map (·.2))
    (hg : ∀ s H C cl fp, PG (BlkCx X scope s H C cl fp) tg g) (ht : ∀ s H C cl fp, DTs (BlkCx X scope s H C cl fp) W0 ifs tst) (he : ∀ s H C cl fp, DE (BlkCx X scope s H C cl fp) W0 elt el) (hs : ∀ x, foldedSetIterable iter X.env x = pure x) :
    DS X ⟨w, none⟩ (.Assign [.Name y py] (.ListComp elt [⟨tg, iter, ifs, 0⟩] scope pos) spos) (asgS (compE m (own.map (·.2)) t tst el) (.one i)) :=
  ps_imp (ps_setLc hc hN hy hyl hsw hi ok hg ht he hs) fun D σ H q => by
    have q2 : tAsg (tE ⟨X.K, none⟩ ⟨w, none⟩ (compE m (own.map (·.2)) t tst el)) (gName i) D σ H := t_asg (tg_one (K := ⟨X.K, none⟩) i trivial) q
    exact t_comp (K := ⟨X.K, none⟩) (fun _ => trivial) tk ho q2

/-! ### raise -/
def raiseS (c : Str) : SM := fun e h => .exc c e h
theorem ds_raise {x m : Str} {j : Nat} {p p2 pos pos2 : Pos} (hc : X.calm = true) (tk : Takes X W.w) (q : PySem.W.excIn X.K (He.ga X.K x) He.veBase "ValueError.__new__" = true) (gC : X.mg x = some (.ref (He.ga X.K x))) (kC : PySem.W.keepIn X.K (.ref (He.ga X.K x)) = true) (r : Raises X (.ref (He.ga X.K x))) (hg : Gl X x)
    (hdb : (x == ("__debug__" : Str)) = false) : DS X W (.Raise (some (.Call (.Name x p) [.Constant (.str m) j p2] [] pos)) none pos2) (raiseS x) :=
  ps_imp (ps_raise hc tk (pmk_own PySem.F.excBase_ValueError q gC kC r hg hdb)) fun D σ H ⟨ρ, env, h, rl, p⟩ => p ρ σ H rl.refl rl.eis rl.ewf

/-! ### try -/
def unb (o : Option Nat) : Out → Out
  | .nxt e h => .nxt (match o with | some i => e.set i none | none => e) h
  | .brk e h => .brk (match o with | some i => e.set i none | none => e) h
  | .cnt e h => .cnt (match o with | some i => e.set i none | none => e) h
  | .ret d h => .ret d h
  | .exc _ _ _ => .stuck
  | .stuck => .stuck
/-- sub c: does the clause take an error of the class c; suite c: what it does -/
def tryS (b : SM) (o : Option Nat) (sub : Str → Option Bool) (suite : Str → SM) : SM := fun e h => match b e h with
  | .exc c e1 h1 => (match sub c with
    | some true => (match o with
      | some i => if i < e1.length then unb o (suite c (e1.set i none) h1) else .stuck
      | none => unb o (suite c e1 h1))
    | some false => .exc c e1 h1
    | none => .stuck)
  | .nxt e1 h1 => .nxt e1 h1
  | .ret d h1 => .ret d h1
  | .brk e1 h1 => .brk e1 h1
  | .cnt e1 h1 => .cnt e1 h1
  | .stuck => .stuck
theorem EnvIs.unset {K K' : KX} {ρ : List Addr} {H : Hp} {env : Env} {σ : L2.St} (hk : ∀ ρ H d v, Is K ρ H d v → Is K' ρ H d v) (hj : ∀ σ, K'.J σ) (h : EnvIs K ρ H env σ) : EnvIs K' ρ H env σ :=
  ⟨h.len, (fun i d e => let ⟨v, e1, e2⟩ := h.at_ i d e; ⟨v, e1, hk _ _ _ _ e2⟩), hj σ⟩
mutual
theorem Is.hx {F : PySem.W.Frag} {a b : Option (Nat × Addr)} {ρ : List Addr} {H : Hp} : ∀ (d : D) (v : V), Is ⟨F, a⟩ ρ H d v → Is ⟨F, b⟩ ρ H d v
  | .non, v, h => by unfold Is at h ⊢; exact h
  | .bl _, v, h => by unfold Is at h ⊢; exact h
  | .int _, v, h => by unfold Is at h ⊢; exact h
  | .str _, v, h => by unfold Is at h ⊢; exact h
  | .ty _, v, h => by unfold Is at h ⊢; exact h
  | .glb _, v, h => by unfold Is at h ⊢; exact h
  | .ref _, v, h => by unfold Is at h ⊢; exact h
  | .tup ds, v, h => by
    unfold Is at h ⊢
    obtain ⟨a, xs, e, s, r⟩ := h
    exact ⟨a, xs, e, s, IsL.hx ds xs r⟩
  | .frl ds, v, h => by
    unfold Is at h ⊢
    obtain ⟨a, xs, e, s, r⟩ := h
    exact ⟨a, xs, e, s, IsL.hx ds xs r⟩
theorem IsL.hx {F : PySem.W.Frag} {a b : Option (Nat × Addr)} {ρ : List Addr} {H : Hp} : ∀ (ds : List D) (xs : List V), IsL ⟨F, a⟩ ρ H ds xs → IsL ⟨F, b⟩ ρ H ds xs
  | [], xs, h => by unfold IsL at h ⊢; exact h
  | d :: ds, xs, h => by
    unfold IsL at h ⊢
    obtain ⟨x, r, e, h1, h2⟩ := h
    exact ⟨x, r, e, Is.hx d x h1, IsL.hx ds r h2⟩
end
theorem IsF.hx {F : PySem.W.Frag} {a b : Option (Nat × Addr)} {ρ : List Addr} {H : Hp} : ∀ (ds : List (Str × D)) (xs : List (Str × V)), IsF ⟨F, a⟩ ρ H ds xs → IsF ⟨F, b⟩ ρ H ds xs
  | [], xs, h => by unfold IsF at h ⊢; exact h
  | d :: ds, xs, h => by
    unfold IsF at h ⊢
    obtain ⟨x, r, e, h1, h2⟩ := h
    exact ⟨x, r, e, Is.hx d.2 x h1, IsF.hx ds r h2⟩
theorem CellIs.hx {F : PySem.W.Frag} {a b : Option (Nat × Addr)} {ρ : List Addr} {H : Hp} {p : Addr} {c : Cell} (h : CellIs ⟨F, a⟩ ρ H p c) : CellIs ⟨F, b⟩ ρ H p c := by
  cases c with
  | lst ds => obtain ⟨xs, h1, h2⟩ := h; exact ⟨xs, h1, IsL.hx ds xs h2⟩
  | inst c fs => obtain ⟨dx, vs, h1, h2⟩ := h; exact ⟨dx, vs, h1, IsF.hx fs vs h2⟩
  | dict kvs => exact h
theorem HRel.hx {F : PySem.W.Frag} {a b : Option (Nat × Addr)} {ρ : List Addr} {H : Hp} {cs : List Cell} (h : HRel ⟨F, a⟩ ρ H cs) : HRel ⟨F, b⟩ ρ H cs := ⟨h.len, h.nd, fun n c p e1 e2 => (h.at_ n c p e1 e2).hx⟩
theorem Ext.hx {F : PySem.W.Frag} {a b : Option (Nat × Addr)} {ρ ρ1 : List Addr} {H H1 : Hp} {h1 : PH} (x : Ext ⟨F, a⟩ ρ H h1 ρ1 H1) : Ext ⟨F, b⟩ ρ H h1 ρ1 H1 := ⟨x.pre, x.fresh, x.frame, x.kept, x.rel.hx, x.wf⟩
theorem RD.hx {F : PySem.W.Frag} {a b : Option (Nat × Addr)} {ρ : List Addr} {H : Hp} {n : Nat} {d : D} {v : V} (r : RD ⟨F, a⟩ ρ H n d v) : RD ⟨F, b⟩ ρ H n d v := ⟨Is.hx d v r.1, r.2⟩
theorem EnvWf.unset {env : Env} {n i : Nat} (w : EnvWf env n) : EnvWf (env.set i none) n := fun j d e => by
  by_cases hv : i = j
  · subst hv
    by_cases hl : i < env.length
    · rw [List.getElem?_set_self hl] at e; cases e
    · rw [List.getElem?_eq_none (by rw [List.length_set]; omega)] at e; cases e
  · rw [List.getElem?_set_ne hv] at e
    exact w j d e
/-- into the suite: the slot i holds the error -/
theorem EnvIs.into {F : PySem.W.Frag} {ρ : List Addr} {H : Hp} {env : Env} {σ : L2.St} {i : Nat} {a : Addr} (hi : i < σ.length) (h : EnvIs ⟨F, none⟩ ρ H env σ) : EnvIs ⟨F, some (i, a)⟩ ρ H (env.set i none) (σ.set i (some (.ref a))) := by
  refine ⟨by rw [List.length_set, List.length_set]; exact h.len, fun j d e => ?_, ?_⟩
  · by_cases hv : i = j
    · subst hv
      rw [List.getElem?_set_self (by rw [h.len]; exact hi)] at e; cases e
    · rw [List.getElem?_set_ne hv] at e ⊢
      obtain ⟨v, e1, e2⟩ := h.at_ j d e
      exact ⟨v, e1, Is.hx d v e2⟩
  · show (σ.set i (some (V.ref a)))[i]? = some (some (V.ref a))
    rw [List.getElem?_set_self hi]
/-- out of it -/
theorem EnvIs.outof {F : PySem.W.Frag} {ρ : List Addr} {H : Hp} {env : Env} {σ : L2.St} {i : Nat} {a : Addr} (h : EnvIs ⟨F, some (i, a)⟩ ρ H env σ) : EnvIs ⟨F, none⟩ ρ H (env.set i none) (σ.set i none) := by
  refine ⟨by rw [List.length_set, List.length_set]; exact h.len, fun j d e => ?_, trivial⟩
  by_cases hv : i = j
  · subst hv
    by_cases hl : i < env.length
    · rw [List.getElem?_set_self hl] at e; cases e
    · rw [List.getElem?_eq_none (by rw [List.length_set]; omega)] at e; cases e
  · rw [List.getElem?_set_ne hv] at e ⊢
    obtain ⟨v, e1, e2⟩ := h.at_ j d e
    exact ⟨v, e1, Is.hx d v e2⟩
/-- try .. except x as n (n in slot i) -/
theorem ds_try_as {w : WX} {x n : Str} {i : Nat} {body suite : List Stmt} {b₀ : Stmt} {np pos pos' : Pos} {b : SM} {sub : Str → Option Bool} {su : Str → SM} (hs : X.stack = X.env :: X.outer) (hf : X.env.frame = some X.env.locals) (hN : X.N.Nodup) (hi : X.N[i]? = some n) (hln : X.env.kindOf n = some .local)
    (hc : Names X x (.ref (He.ga X.K x))) (tk : Takes X w) (hsub : ∀ c k, sub c = some k → PySem.W.exmOne X.K (.ref (He.ga X.K c)) (.ref (He.ga X.K x)) = some k)
    (hb : ∀ (w' : WX) (pn : List (Addr × Obj)) (xe : Value → Shared → Prop), Takes (X.tr pn xe) w' → PassesOwn (model X.prog X.w) X.A X.env xe → DSs (X.tr pn xe) ⟨w', none⟩ body b)
    (hsu : ∀ (c : Str) (a : Addr) (oe : Obj) (pn : List (Addr × Obj)), Zc (.ref (He.ga X.K c)) none oe → (∃ vs, oe.data = .fields vs) → sub c = some true → DSs (X.suite a ((a, oe) :: pn)) ⟨fun _ _ _ _ => False, some (i, a)⟩ (b₀ :: suite) (su c)) :
    DS X ⟨w, none⟩ (.Try body [.ExceptHandler (some (.Name x np)) (some n) (b₀ :: suite) pos'] [] [] pos) (tryS b (some i) sub su) := by
  let ts : Addr → Value → Option Addr → TS := fun a cls d D σ H => ∃ c, cls = .ref (He.ga X.K c) ∧ d = none ∧ sub c = some true ∧ tS ⟨X.K, some (i, a)⟩ ⟨fun _ _ _ _ => False, some (i, a)⟩ (su c) D σ H
  refine ps_imp (ps_try_as (tb := fun W' => tS ⟨X.K, none⟩ ⟨W', none⟩ b) (ts := ts) hs hf hN hi hln hc tk hb (fun a oe cls d pn hz hd => ⟨fun pins s σ H D I ⟨c, ec, ed, ht, q⟩ => ?_⟩)) fun D σ H ⟨ρ, env, h, rl, p⟩ => ?_
  · subst ec
    subst ed
    exact (hsu c a oe pn hz hd ht).run pins s σ H D I q
  · refine ⟨ρ, env, h, rl, ?_⟩
    unfold tryS at p
    cases eb : b env h with
    | stuck => rw [eb] at p; exact p
    | nxt e1 h1 => rw [eb] at p; exact p
    | ret e1 h1 => rw [eb] at p; exact p
    | brk e1 h1 => rw [eb] at p; exact p
    | cnt e1 h1 => rw [eb] at p; exact p
    | exc c e1 h1 =>
      rw [eb] at p
      intro ρ1 σ1 H1 x1 ei1 w1
      dsimp only at p
      cases es : sub c with
      | none => rw [es] at p; exact p.elim
      | some k =>
        rw [es] at p
        refine ⟨k, hsub c k es, fun ek a na => ?_, fun ek => ?_⟩
        · subst ek
          dsimp only at p
          split at p
          case isFalse => exact p.elim
          rename_i hl
          refine ⟨c, rfl, rfl, es, ρ1, e1.set i none, h1, ⟨EnvIs.into (by rw [← ei1.len]; exact hl) ei1, x1.rel.hx, x1.wf, w1.unset⟩, ?_⟩
          cases eu : su c (e1.set i none) h1 with
          | stuck => rw [eu] at p; exact p
          | exc _ _ _ => rw [eu] at p; exact p.elim
          | nxt e2 h2 =>
            rw [eu] at p
            exact fun ρ2 σ2 H2 x2 ei2 w2 => p ρ2 _ H2 (x1.trans x2.hx) ei2.outof w2.unset
          | brk e2 h2 =>
            rw [eu] at p
            exact fun ρ2 σ2 H2 x2 ei2 w2 => p ρ2 _ H2 (x1.trans x2.hx) ei2.outof w2.unset
          | cnt e2 h2 =>
            rw [eu] at p
            exact fun ρ2 σ2 H2 x2 ei2 w2 => p ρ2 _ H2 (x1.trans x2.hx) ei2.outof w2.unset
          | ret d2 h2 =>
            rw [eu] at p
            exact fun ρ2 v2 H2 x2 r2 => p ρ2 v2 H2 (x1.trans x2.hx) r2.hx
        · subst ek
          exact p ρ1 σ1 H1 x1 ei1 w1
/-- try .. except x: -/
theorem ds_try {w : WX} {x : Str} {body suite : List Stmt} {b₀ : Stmt} {np pos pos' : Pos} {b : SM} {sub : Str → Option Bool} {su : Str → SM} (hs : X.stack = X.env :: X.outer) (hf : X.env.frame = some X.env.locals)
    (hc : Names X x (.ref (He.ga X.K x))) (tk : Takes X w) (hsub : ∀ c k, sub c = some k → PySem.W.exmOne X.K (.ref (He.ga X.K c)) (.ref (He.ga X.K x)) = some k)
    (hb : ∀ (w' : WX) (pn : List (Addr × Obj)) (xe : Value → Shared → Prop), Takes (X.tr pn xe) w' → PassesOwn (model X.prog X.w) X.A X.env xe → DSs (X.tr pn xe) ⟨w', none⟩ body b)
    (hsu : ∀ (c : Str) (a : Addr) (oe : Obj) (pn : List (Addr × Obj)), Zc (.ref (He.ga X.K c)) none oe → (∃ vs, oe.data = .fields vs) → sub c = some true → DSs (X.suite a ((a, oe) :: pn)) ⟨fun _ _ _ _ => False, none⟩ (b₀ :: suite) (su c)) :
    DS X ⟨w, none⟩ (.Try body [.ExceptHandler (some (.Name x np)) none (b₀ :: suite) pos'] [] [] pos) (tryS b none sub su) := by
  let ts : Addr → Value → Option Addr → TS := fun a cls d D σ H => ∃ c, cls = .ref (He.ga X.K c) ∧ d = none ∧ sub c = some true ∧ tS ⟨X.K, none⟩ ⟨fun _ _ _ _ => False, none⟩ (su c) D σ H
  refine ps_imp (ps_try_only (tb := fun W' => tS ⟨X.K, none⟩ ⟨W', none⟩ b) (ts := ts) hs hf hc tk hb (fun a oe cls d pn hz hd => ⟨fun pins s σ H D I ⟨c, ec, ed, ht, q⟩ => ?_⟩)) fun D σ H ⟨ρ, env, h, rl, p⟩ => ?_
  · subst ec
    subst ed
    exact (hsu c a oe pn hz hd ht).run pins s σ H D I q
  · refine ⟨ρ, env, h, rl, ?_⟩
    unfold tryS at p
    cases eb : b env h with
    | stuck => rw [eb] at p; exact p
    | nxt e1 h1 => rw [eb] at p; exact p
    | ret e1 h1 => rw [eb] at p; exact p
    | brk e1 h1 => rw [eb] at p; exact p
    | cnt e1 h1 => rw [eb] at p; exact p
    | exc c e1 h1 =>
      rw [eb] at p
      intro ρ1 σ1 H1 x1 ei1 w1
      dsimp only at p
      cases es : sub c with
      | none => rw [es] at p; exact p.elim
      | some k =>
        rw [es] at p
        refine ⟨k, hsub c k es, fun ek a na => ?_, fun ek => ?_⟩
        · subst ek
          refine ⟨c, rfl, rfl, es, ρ1, e1, h1, ⟨ei1, x1.rel, x1.wf, w1⟩, ?_⟩
          dsimp only at p
          cases eu : su c e1 h1 with
          | stuck => rw [eu] at p; exact p
          | exc _ _ _ => rw [eu] at p; exact p.elim
          | nxt e2 h2 =>
            rw [eu] at p
            exact fun ρ2 σ2 H2 x2 ei2 w2 => p ρ2 _ H2 (x1.trans x2) ei2 w2
          | brk e2 h2 =>
            rw [eu] at p
            exact fun ρ2 σ2 H2 x2 ei2 w2 => p ρ2 _ H2 (x1.trans x2) ei2 w2
          | cnt e2 h2 =>
            rw [eu] at p
            exact fun ρ2 σ2 H2 x2 ei2 w2 => p ρ2 _ H2 (x1.trans x2) ei2 w2
          | ret d2 h2 =>
            rw [eu] at p
            exact fun ρ2 v2 H2 x2 r2 => p ρ2 v2 H2 (x1.trans x2) r2
        · subst ek
          exact p ρ1 σ1 H1 x1 ei1 w1
end
end Dy

/-! isinstance; the table of a program; the compiler of expressions. -/
namespace Dy
open PySem PySem.Spec PyProof.Rows L2
/-! ### isinstance -/
def tyName (h : PH) : D → Option String
  | .non => some "NoneType"
  | .bl _ => some "bool"
  | .int _ => some "int"
  | .str _ => some "str"
  | .tup _ => some "tuple"
  | .frl _ => some "list"
  | .ref n => (match h.cs[n]? with
    | some (.lst _) => some "list"
    | _ => none)
  | _ => none
def tyAsk : List String := ["int", "bool", "str", "tuple", "list"]
def isiB (a b : String) : Bool := a == b || (a == "bool" && b == "int")
theorem isiB_ok : (["NoneType", "bool", "int", "str", "tuple", "list"].all fun a => tyAsk.all fun b => decide (kitB a b = some (isiB a b))) = true := by decide +kernel
def isiF (d c : D) (h : PH) : Res D := match tyName h d, c with
  | some a, .ty b => if tyAsk.contains b = true then .ok (.bl (isiB a b)) h else .stuck
  | _, _ => .stuck
section
variable {X : Cx} {W : WJ}
theorem tyName_is {K : KX} {ρ : List Addr} {h : PH} {H : Hp} (at_ : At K ρ h H) {d : D} {v : V} {a : String} (e : tyName h d = some a) (r : RD K ρ H h.cs.length d v) :
    TyX K.K H v (.type a) ∧ a ∈ ["NoneType", "bool", "int", "str", "tuple", "list"] := by
  cases d with
  | non => cases e; rw [r.1.non]; exact ⟨.base .non, by simp⟩
  | bl b => cases e; rw [r.1.bl]; exact ⟨.base (.bl b), by simp⟩
  | int b => cases e; rw [r.1.int]; exact ⟨.base (.int b), by simp⟩
  | str b => cases e; rw [r.1.str]; exact ⟨.base (.str b), by simp⟩
  | tup ds =>
    cases e
    obtain ⟨p, xs, rfl, s, _⟩ := r.1.tup
    refine ⟨?_, by simp⟩
    rcases s with (s | ⟨o, s⟩) | ⟨o, _, _, s, c, _⟩
    · exact .base (.tup s)
    · exact .fTuple s
    · exact .kTuple s c
  | frl ds =>
    cases e
    obtain ⟨p, xs, rfl, s, _⟩ := r.1.frl
    refine ⟨?_, by simp⟩
    rcases s with ⟨o, s⟩ | ⟨o, _, _, s, c, _⟩
    · exact .base (.frz s)
    · exact .kList s c
  | ref n =>
    have e' : (match h.cs[n]? with
    | some (.lst _) => some "list"
    | _ => none) = some a := e
    split at e'
    · rename_i ds q
      cases e'
      obtain ⟨p, xs, rfl, _, h1, _⟩ := at_.lst q r.1
      exact ⟨.base (.lst h1), by simp⟩
    · cases e'
  | _ => cases e
theorem o_isi : OpN (kx X W) W (f2 isiF) (rIsi X.K) := by
  intro σ ρ h H ds xs Q at_ rl p
  unfold f2 at p
  split at p
  · rename_i d c
    unfold isiF at p
    split at p
    · rename_i a b e
      split at p
      · rename_i hb
        obtain ⟨v, u, rfl, i1, i2⟩ := rl.1.two
        have l : mrL [d, .ty b] ≤ h.cs.length := rl.2
        unfold mrL at l
        obtain ⟨t1, t2⟩ := tyName_is at_ e ⟨i1, by omega⟩
        unfold Is at i2
        subst i2
        have k : kitB a b = some (isiB a b) := by
          have z := List.all_eq_true.mp isiB_ok a t2
          exact of_decide_eq_true (List.all_eq_true.mp z b (by simpa using hb))
        exact ⟨v, .ty b, .type a, .type b, _, rfl, .ty b, t1, kit_ty k, p ρ _ H at_.refl is_bl⟩
      · exact p.elim
    · exact p.elim
  · exact p.elim

def gcdF : D → D → PH → Res D := stepI fun i j => some (.int ((Nat.gcd i.natAbs j.natAbs : Nat) : Int))
theorem o_gcd : OpN (kx X W) W (f2 gcdF) rGcd := by
  intro σ ρ h H ds xs Q at_ rl p
  unfold f2 at p
  split at p
  · rename_i d c
    unfold gcdF stepI at p
    split at p
    · rename_i i j
      obtain ⟨v, u, rfl, i1, i2⟩ := rl.1.two
      rw [i1.int, i2.int]
      exact ⟨i, j, rfl, p ρ _ H at_.refl is_int⟩
    · exact p.elim
  · exact p.elim
/-! ### what the top has left, as the code uses it -/
structure Tab where
  fn : Str → Option (Nat × Fn)
  con : Str → Option D
  free : Str → Bool
  exc : Str → Bool
  /-- is an error of the class c one of the class x -/
  sub : Str → Str → Option Bool
  /-- is it the module's name of math.gcd -/
  gcd : Str → Bool
  /-- .. one of a built-in class -/
  subT : Str → Str → Option Bool
structure TabOk (P : Program) (w : World) (K : PySem.W.Frag) (mg : Str → Option Value) (base : Heap) (T : Tab) (k : Nat) : Prop where
  fn : ∀ x n f, T.fn x = some (n, f) → ∃ a fd ps, mg x = some (.ref a) ∧ PySem.W.keepIn K (.ref a) = true ∧ Binds K fd ps [] ∧ FnOk P w K mg base (L2.CX P w) k a fd ps (spD ⟨K, none⟩ n f)
  con : ∀ x d, T.con x = some d → ∃ u v, mg x = some u ∧ RelV v u ∧ (∀ hx ρ H, Is ⟨K, hx⟩ ρ H d v) ∧ d.mr = 0
  free : ∀ x, T.free x = true → mg x = none
  exc : ∀ x, T.exc x = true → mg x = some (.ref (He.ga K x)) ∧ (He.Fa.exc x).ok K = true
  sub : ∀ c x b, T.sub c x = some b → mg x = some (.ref (He.ga K x)) ∧ PySem.W.exmOne K (.ref (He.ga K c)) (.ref (He.ga K x)) = some b ∧ PySem.W.kitOne K (.ref (He.ga K c)) (.ref (He.ga K x)) = some b ∧ ExcC K (He.ga K c)
  gcd : ∀ x, T.gcd x = true → mg x = some (.builtin "math.gcd")
  subT : ∀ c x b, T.subT c x = some b → mg x = none ∧ x = "ValueError" ∧ PySem.W.kitOne K (.ref (He.ga K c)) (.type "ValueError") = some b ∧ ExcC K (He.ga K c)
/-- the static part of where code stands -/
structure SC where
  N : List Str
  sc : Scope
  T : Tab
  k : Nat
  calm : Bool
  top : Bool
  /-- the slot and the class of the error that an except suite holds -/
  hx : Option (Nat × Str)
  /-- the names whose cells are its own -/
  fnc : Str → Bool
structure CxOk (g : SC) (X : Cx) (W : WJ) : Prop where
  hN : X.N = g.N
  nd : g.N.Nodup
  sc : X.env.scope = g.sc
  calm : g.calm = true → X.calm = true ∧ W.hx = none ∧ g.hx = none ∧ Room g.k X.A
  tk : Takes X W.w
  po : PassesOwn (model X.prog X.w) X.A X.env X.xe
  top : g.top = true → X.stack = X.env :: X.outer ∧ X.env.frame = some X.env.locals
  fn : ∀ x, g.fnc x = true → X.fn x = true
  tab : TabOk X.prog X.w X.K X.mg X.base g.T g.k
  units : X.A.units + 65 < cLine
  kind : g.sc.kind = .function
  hx : ∀ i c, g.hx = some (i, c) → ∃ a oe pn X0, W.hx = some (i, a) ∧ Zc (.ref (He.ga X.K c)) none oe ∧ (∃ vs, oe.data = .fields vs) ∧ X = Cx.suite X0 a ((a, oe) :: pn)
  hx0 : g.hx = none → W.hx = none
def ixOf : List Str → Str → Option Nat
  | [], _ => none
  | y :: r, x => if y = x then some 0 else (match ixOf r x with
    | some i => some (i + 1)
    | none => none)
theorem ixOf_get : ∀ {N : List Str} {x : Str} {i : Nat}, ixOf N x = some i → N[i]? = some x
  | [], x, i, h => by cases h
  | y :: r, x, i, h => by
    unfold ixOf at h
    split at h
    · rename_i e
      cases h; rw [e]; rfl
    · split at h
      · rename_i j q
        cases h
        show r[j]? = some x
        exact ixOf_get q
      · cases h
/-- a name of the def's own, where it is read -/
def slot (g : SC) (x : Str) : Option Nat := match g.sc.names.lookup x with
  | some .local => ixOf g.N x
  | some .cell => ixOf g.N x
  | some .free => ixOf g.N x
  | _ => none
/-- .. where it is stored -/
def sslot (g : SC) (x : Str) : Option Nat := match g.sc.names.lookup x with
  | some .local => ixOf g.N x
  | some .cell => if g.fnc x = true then ixOf g.N x else none
  | _ => none
def isGl (g : SC) (x : Str) : Bool := match g.sc.names.lookup x with
  | some .globalImplicit => true
  | _ => false
def okName (x : Str) : Bool := !(x == ("__debug__" : Str)) && (!(x == ("__classdict__" : Str)) && !(x == ("__name__" : Str)))
theorem okName_is {x : Str} (h : okName x = true) : (x == ("__debug__" : Str)) = false ∧ (x == ("__classdict__" : Str)) = false ∧ x ≠ "__name__" := by
  unfold okName at h
  simp only [Bool.and_eq_true, Bool.not_eq_true'] at h
  exact ⟨h.1, h.2.1, by intro e; have := h.2.2; rw [e] at this; simp at this⟩
variable {g : SC}
theorem slot_is (c : CxOk g X W) {x : Str} {i : Nat} (h : slot g x = some i) : X.N[i]? = some x ∧ Vis X.env.scope x := by
  unfold slot at h
  rw [c.hN, c.sc]
  split at h
  · rename_i e; exact ⟨ixOf_get h, .inl e⟩
  · rename_i e; exact ⟨ixOf_get h, .inr (.inl e)⟩
  · rename_i e; exact ⟨ixOf_get h, .inr (.inr e)⟩
  · cases h
theorem sslot_is (c : CxOk g X W) {x : Str} {i : Nat} (h : sslot g x = some i) : X.N[i]? = some x ∧ Loc X.env.scope x ∧ (X.fn x = true ∨ X.env.scope.names.lookup x = some .local) := by
  unfold sslot at h
  rw [c.hN, c.sc]
  split at h
  · rename_i e; exact ⟨ixOf_get h, .inl e, .inr e⟩
  · rename_i e
    split at h
    · rename_i f; exact ⟨ixOf_get h, .inr e, .inl (c.fn x f)⟩
    · cases h
  · cases h
theorem gl_is (c : CxOk g X W) {x : Str} (h : isGl g x = true) : Gl X x := by
  unfold isGl at h
  show X.env.scope.names.lookup x = some .globalImplicit
  rw [c.sc]
  split at h
  · rename_i e; exact e
  · cases h
/-- the built-in classes that isinstance asks for -/
def tyNames : List (Str × String) := [("int", "int"), ("bool", "bool"), ("str", "str"), ("tuple", "tuple"), ("list", "list")]
theorem tyNames_ok : (tyNames.all fun p => decide (bootBuiltins p.1 = some (.type p.2))) = true := by decide +kernel
def tyOf (x : Str) : Option String := tyNames.lookup x
theorem lookup_mem {α : Type} : ∀ {l : List (Str × α)} {x : Str} {a : α}, l.lookup x = some a → (x, a) ∈ l
  | [], x, a, h => by cases h
  | (y, b) :: r, x, a, h => by
    rw [List.lookup_cons] at h
    split at h
    · rename_i e
      cases h
      rw [eq_of_beq e]; exact List.mem_cons_self
    · exact List.mem_cons_of_mem _ (lookup_mem h)
theorem tyOf_is {x : Str} {t : String} (h : tyOf x = some t) : bootBuiltins x = some (.type t) := of_decide_eq_true (List.all_eq_true.mp tyNames_ok _ (lookup_mem h))
/-- a name -/
def cName (g : SC) (x : Str) : EM := if okName x = true then (match slot g x with
  | some i => vE i
  | none => if isGl g x = true then (match g.T.con x with
    | some d => cE d
    | none => if g.T.free x = true then (match tyOf x with
      | some t => cE (.ty t)
      | none => stuckE) else stuckE) else stuckE) else stuckE
theorem s_name (c : CxOk g X W) (x : Str) (pos : Pos) : DE X W (.Name x pos) (cName g x) := by
  unfold cName
  split
  · rename_i ok
    obtain ⟨o1, o2, o3⟩ := okName_is ok
    split
    · rename_i i e
      obtain ⟨h1, h2⟩ := slot_is c e
      exact de_var (pe_var h1 h2 o1 o2)
    · split
      · rename_i hg
        split
        · rename_i d e
          obtain ⟨u, v, h1, h2, h3, h4⟩ := c.tab.con x d e
          exact de_const (pe_glob (gl_is c hg) h1 h2 o1) (fun ρ H => h3 _ ρ H) h4
        · split
          · rename_i hf
            split
            · rename_i t e
              exact de_const (pe_bltn (v := .ty t) (gl_is c hg) (c.tab.free x hf) (tyOf_is e) rfl o3 o1) (fun ρ H => by unfold Is; rfl) rfl
            · exact de_stuck
          · exact de_stuck
      · exact de_stuck
  · exact de_stuck
end
end Dy

/-! The compiler of expressions, and that it is right. -/
namespace Dy
open PySem PySem.Spec PyProof.Rows L2
section
variable {X : Cx} {W : WJ} {g : SC}
/-! ### operators by name -/
def binF : Operator → Option (D → D → PH → Res D)
  | .Add => some addF
  | .Sub => some subF
  | .Mult => some mulF
  | .FloorDiv => some fdivF
  | .Mod => some modF
  | .Pow => some powF
  | .LShift => some shlF
  | .RShift => some shrF
  | _ => none
theorem binF_ok {op : Operator} {f : D → D → PH → Res D} (h : binF op = some f) : ∃ r, OpR X (binaryOp op) r ∧ Op2 (kx X W) W f r := by
  cases op <;> first | (cases h; done) | skip
  · cases h; exact ⟨_, op_add.or (op_add_str.or (op_catA.or op_cat)), o_add⟩
  · cases h; exact ⟨_, op_sub, o_sub⟩
  · cases h; exact ⟨_, op_mulW.or (op_repT.or (op_repS.or op_rep)), o_mul⟩
  · cases h; exact ⟨_, op_mod, o_mod⟩
  · cases h; exact ⟨_, op_pow, o_pow⟩
  · cases h; exact ⟨_, op_shlW, o_shl⟩
  · cases h; exact ⟨_, op_shr, o_shr⟩
  · cases h; exact ⟨_, op_fdivW, o_fdiv⟩
def cmpF : CmpOp → Option (D → D → PH → Res D)
  | .Eq => some eqF
  | .NotEq => some neF
  | .Lt => some ltF
  | .LtE => some leF
  | .Gt => some gtF
  | .GtE => some geF
  | .In => some inF
  | .NotIn => some notInF
  | .Is => some isF
  | .IsNot => some isNotF
theorem cmpF_ok (c : CxOk g X W) {op : CmpOp} {f : D → D → PH → Res D} (h : cmpF op = some f) : ∃ r, OpR X (compareOp op) r ∧ Op2 (kx X W) W f r := by
  have hu := c.units
  have hu1 : X.A.units + 64 < cLine := by omega
  have hu2 : X.A.units < cLine := by omega
  cases op
  · cases h; exact ⟨_, op_eq.or (op_eqD hu1), o_eq⟩
  · cases h; exact ⟨_, op_ne.or (op_neD hu1), o_ne⟩
  · cases h; exact ⟨_, op_lt.or (op_ltT hu2), o_lt⟩
  · cases h; exact ⟨_, op_le, o_intB⟩
  · cases h; exact ⟨_, op_gt, o_intB⟩
  · cases h; exact ⟨_, op_ge, o_intB⟩
  · cases h; exact ⟨_, op_isN, o_is⟩
  · cases h; exact ⟨_, op_notN, o_isNot⟩
  · cases h; exact ⟨_, op_in_str.or (op_in_seq.or (op_inD hu)), o_in⟩
  · cases h; exact ⟨_, op_notin_str.or (op_notIn_seq.or (op_notInD hu)), o_notIn⟩
/-! ### built-ins by name -/
inductive Bi where
  | len | abs | max2 | min2 | max1 | min1 | int | str | list | tuple | sum | all | any | sorted | isi | ord
def Bi.fn : Bi → Fn
  | .len => f1 lenF
  | .abs => f1 absF
  | .max2 => f2 max2F
  | .min2 => f2 min2F
  | .max1 => f1 max1F
  | .min1 => f1 min1F
  | .int => f1 intF
  | .str => f1 strF
  | .list => f1 listF
  | .tuple => f1 tupleF
  | .sum => f1 sumF
  | .all => f1 allF
  | .any => f1 anyF
  | .sorted => f1 sortedF
  | .isi => f2 isiF
  | .ord => f1 ordF
def biTab : List ((Str × Nat) × Bi) := [(("len", 1), .len), (("abs", 1), .abs), (("max", 2), .max2), (("min", 2), .min2), (("max", 1), .max1), (("min", 1), .min1), (("int", 1), .int), (("str", 1), .str), (("list", 1), .list), (("tuple", 1), .tuple),
  (("sum", 1), .sum), (("all", 1), .all), (("any", 1), .any), (("sorted", 1), .sorted), (("isinstance", 2), .isi), (("ord", 1), .ord)]
def biOf (x : Str) (n : Nat) : Option Bi := (biTab.find? fun p => decide (p.1 = (x, n))).map (·.2)
theorem biOf_mem {x : Str} {n : Nat} {b : Bi} (h : biOf x n = some b) : ((x, n), b) ∈ biTab := by
  unfold biOf at h
  cases e : biTab.find? fun p => decide (p.1 = (x, n)) with
  | none => rw [e] at h; cases h
  | some p =>
    rw [e] at h
    have h1 := List.mem_of_find?_eq_some e
    have h2 := List.find?_some e
    have h3 : p.1 = (x, n) := of_decide_eq_true h2
    have h4 : p.2 = b := by simpa using h
    rw [← h3, ← h4]; exact h1
/-- a call of a built-in is right -/
def CallOk (X : Cx) (W : WJ) (x : Str) (f : Fn) : Prop := ∀ (p pos : Pos) (e : Expr) (es : List Expr) (m : AM), DA X W (e :: es) m → noStars (e :: es) = true → DE X W (.Call (.Name x p) (e :: es) [] pos) (nA f m)
theorem callB_ok {x : Str} {id : String} {f : Fn} {r : List V → Hp → VK → Prop} (hc : CallR X (.builtin id) r) (hf : OpN (kx X W) W f r) (hg : Gl X x) (hm : X.mg x = none) (hv : bootBuiltins x = some (.builtin id)) (hn : x ≠ "__name__") (hdb : (x == ("__debug__" : Str)) = false) : CallOk X W x f :=
  fun p pos e es m ha hs => de_callB hc hf hg hm hv ha hn hdb (star_no (noStars_head hs).1 es _) (noStars_any (noStars_head hs).2 pos _)
theorem callT_ok {x : Str} {T : String} {f : Fn} {r : List V → Hp → VK → Prop} (hc : CallR X (.type T) r) (hf : OpN (kx X W) W f r) (hg : Gl X x) (hm : X.mg x = none) (hv : bootBuiltins x = some (.type T)) (hn : x ≠ "__name__") (hdb : (x == ("__debug__" : Str)) = false) : CallOk X W x f :=
  fun p pos e es m ha hs => de_callTy hc hf hg hm hv ha hn hdb (star_no (noStars_head hs).1 es _) (noStars_any (noStars_head hs).2 pos _)
/-- those that want a calm place -/
def Bi.calm : Bi → Bool
  | .max2 => true
  | .min2 => true
  | .max1 => true
  | .min1 => true
  | .sum => true
  | .all => true
  | .any => true
  | _ => false
theorem bi_ok {x : Str} {n : Nat} {b : Bi} (h : biOf x n = some b) (hk : b.calm = true → X.calm = true) (hg : Gl X x) (hm : X.mg x = none) (hn : x ≠ "__name__") (hdb : (x == ("__debug__" : Str)) = false) : CallOk X W x b.fn := by
  have m := biOf_mem h
  unfold biTab at m
  simp only [List.mem_cons, List.not_mem_nil, or_false, Prod.mk.injEq] at m
  rcases m with ⟨⟨rfl, rfl⟩, rfl⟩ | ⟨⟨rfl, rfl⟩, rfl⟩ | ⟨⟨rfl, rfl⟩, rfl⟩ | ⟨⟨rfl, rfl⟩, rfl⟩ | ⟨⟨rfl, rfl⟩, rfl⟩ | ⟨⟨rfl, rfl⟩, rfl⟩ | ⟨⟨rfl, rfl⟩, rfl⟩ | ⟨⟨rfl, rfl⟩, rfl⟩ | ⟨⟨rfl, rfl⟩, rfl⟩ | ⟨⟨rfl, rfl⟩, rfl⟩ | ⟨⟨rfl, rfl⟩, rfl⟩ | ⟨⟨rfl, rfl⟩, rfl⟩ | ⟨⟨rfl, rfl⟩, rfl⟩ | ⟨⟨rfl, rfl⟩, rfl⟩ | ⟨⟨rfl, rfl⟩, rfl⟩ | ⟨⟨rfl, rfl⟩, rfl⟩
  · exact callB_ok (c_len (W := W)) (opn_1 o_len) hg hm (by decide +kernel) hn hdb
  · exact callB_ok c_abs (opn_1 o_abs) hg hm (by decide +kernel) hn hdb
  · exact callB_ok (c_max2 (hk rfl)) (opn_2 o_max2) hg hm (by decide +kernel) hn hdb
  · exact callB_ok (c_min2 (hk rfl)) (opn_2 o_min2) hg hm (by decide +kernel) hn hdb
  · exact callB_ok (c_max1 (W := W) (hk rfl)) (opn_1 o_max1) hg hm (by decide +kernel) hn hdb
  · exact callB_ok (c_min1 (W := W) (hk rfl)) (opn_1 o_min1) hg hm (by decide +kernel) hn hdb
  · exact callT_ok c_int (opn_1 o_int) hg hm (by decide +kernel) hn hdb
  · exact callT_ok c_str (opn_1 o_str) hg hm (by decide +kernel) hn hdb
  · exact callT_ok (c_list (W := W)) (opn_1 o_list) hg hm (by decide +kernel) hn hdb
  · exact callT_ok (c_tuple (W := W)) (opn_1 o_tuple) hg hm (by decide +kernel) hn hdb
  · exact callB_ok (c_sum (W := W) (hk rfl)) (opn_1 o_sum) hg hm (by decide +kernel) hn hdb
  · exact callB_ok (c_all (W := W) (hk rfl)) (opn_1 o_all) hg hm (by decide +kernel) hn hdb
  · exact callB_ok (c_any (W := W) (hk rfl)) (opn_1 o_any) hg hm (by decide +kernel) hn hdb
  · exact callB_ok (c_sorted (W := W)) (opn_1 o_sorted) hg hm (by decide +kernel) hn hdb
  · exact callB_ok call_isi o_isi hg hm (by decide +kernel) hn hdb
  · exact callB_ok c_ord (opn_1 o_ord) hg hm (by decide +kernel) hn hdb
/-! ### methods by name -/
inductive Mt where
  | app | pop0 | join | split | index
def mtTab : List ((Str × Nat) × Mt) := [(("append", 1), .app), (("pop", 0), .pop0), (("join", 1), .join), (("split", 1), .split), (("index", 2), .index)]
def mtOf (x : Str) (n : Nat) : Option Mt := (mtTab.find? fun p => decide (p.1 = (x, n))).map (·.2)
theorem mtOf_mem {x : Str} {n : Nat} {b : Mt} (h : mtOf x n = some b) : ((x, n), b) ∈ mtTab := by
  unfold mtOf at h
  cases e : mtTab.find? fun p => decide (p.1 = (x, n)) with
  | none => rw [e] at h; cases h
  | some p =>
    rw [e] at h
    have h1 := List.mem_of_find?_eq_some e
    have h2 := List.find?_some e
    have h3 : p.1 = (x, n) := of_decide_eq_true h2
    have h4 : p.2 = b := by simpa using h
    rw [← h3, ← h4]; exact h1
def Mt.ty : Mt → String
  | .app => "list"
  | .pop0 => "list"
  | .join => "str"
  | .split => "str"
  | .index => "str"
def Mt.f : Mt → D → List D → PH → Res D
  | .app => appF
  | .pop0 => popF
  | .join => joinF
  | .split => splitF
  | .index => indexF
theorem mtr_of {X : Cx} {id : String} {r : V → List V → Hp → VK → Prop} (h : MtM X id r) : MtR X id r := fun pins s σ H x xs v us Q I rx rs q => h pins s σ H x xs v us Q I rx rs q
theorem mt_ok {x : Str} {n : Nat} {b : Mt} (h : mtOf x n = some b) {o : Expr} {es : List Expr} {apos cpos : Pos} {mo : EM} {ma : AM} (hn : es.length = n) (ho : DE X W o mo) (ha : DA X W es ma) (hz : n = 0 → ma = nilA) (bo : baseOk o = true) (ns : noStars es = true) (hl : (apos.endLine == cpos.line) = true) :
    DE X W (.Call (.Attribute o x apos) es [] cpos) (mtE b.ty b.f mo ma) := by
  have m := mtOf_mem h
  unfold mtTab at m
  simp only [List.mem_cons, List.not_mem_nil, or_false, Prod.mk.injEq] at m
  rcases m with ⟨⟨rfl, rfl⟩, rfl⟩ | ⟨⟨rfl, rfl⟩, rfl⟩ | ⟨⟨rfl, rfl⟩, rfl⟩ | ⟨⟨rfl, rfl⟩, rfl⟩ | ⟨⟨rfl, rfl⟩, rfl⟩
  · match es, hn with
    | [e], _ => exact de_mt PySem.F.plainAttrs_list PySem.F.slot_list_append PySem.F.type_list_append (mtr_of mt_append) o_app ho ha bo ns hl (by simp)
  · match es, hn with
    | [], _ =>
      rw [hz rfl]
      exact de_mt0 PySem.F.plainAttrs_list PySem.F.slot_list_pop PySem.F.type_list_pop (mtr_of mt_pop) o_pop ho bo hl
  · match es, hn with
    | [e], _ => exact de_mt PySem.F.plainAttrs_str PySem.F.slot_str_join PySem.F.type_str_join mt_join o_join ho ha bo ns hl (by simp)
  · match es, hn with
    | [e], _ => exact de_mt PySem.F.plainAttrs_str PySem.F.slot_str_split PySem.F.type_str_split mt_split o_split ho ha bo ns hl (by simp)
  · match es, hn with
    | [e, e'], _ => exact de_mt PySem.F.plainAttrs_str PySem.F.slot_str_index PySem.F.type_str_index mt_indexFrom o_index ho ha bo ns hl (by simp)
end
end Dy

/-! The compiler of expressions, and that it is right. -/
namespace Dy
open PySem PySem.Spec PyProof.Rows L2
/-- the block of a comprehension -/
def blkSC (g : SC) (scope : Scope) : SC := { g with sc := relS scope g.sc, top := false, hx := none, fnc := fun x => scope.names.lookup x == some .cell }
def ownOf (g : SC) (scope : Scope) : List (Str × Nat) := scope.names.filterMap fun p => match p.2 with
  | .local => (ixOf g.N p.1).map fun i => (p.1, i)
  | .cell => (ixOf g.N p.1).map fun i => (p.1, i)
  | _ => none
/-- the names of targets -/
def nameSlots (g : SC) : List Expr → Option (List Nat)
  | [] => some []
  | .Name x _ :: r => (match sslot g x with
    | some i => (match nameSlots g r with
      | some l => some (i :: l)
      | none => none)
    | none => none)
  | _ :: _ => none
def cTgt (g : SC) : Expr → Option Tgt
  | .Name x _ => (match sslot g x with
    | some i => some (.one i)
    | none => none)
  | .Tuple ts _ _ => if g.calm = true then (match nameSlots g ts with
    | some l => some (.many l)
    | none => none) else none
  | _ => none
/-- the slot that an except suite holds is not stored to -/
def hxFree (g : SC) (t : Tgt) : Bool := match g.hx with
  | none => true
  | some (i, _) => !(t.slots.contains i)
def cA (f : Expr → EM) : List Expr → AM
  | [] => nilA
  | e :: es => if isStar e = true then stuckA else consA (f e) (cA f es)
def cAnds (f : Expr → TM) : List Expr → TM
  | [] => stuckT
  | [a] => f a
  | a :: b :: r => andT (f a) (cAnds f (b :: r))
def cOrs (f : Expr → TM) : List Expr → TM
  | [] => stuckT
  | [a] => f a
  | a :: b :: r => orT (f a) (cOrs f (b :: r))
def cAndE (f : Expr → EM) : List Expr → EM
  | [] => stuckE
  | [a] => f a
  | a :: b :: r => andE (f a) (cAndE f (b :: r))
def cOrE (f : Expr → EM) : List Expr → EM
  | [] => stuckE
  | [a] => f a
  | a :: b :: r => orE (f a) (cOrE f (b :: r))
def cO (f : Expr → EM) : Option Expr → OM
  | none => noO
  | some e => someO (f e)
def cConst : Const → EM
  | .int i => cE (.int i)
  | .bool b => cE (.bl b)
  | .str x => cE (.str x)
  | .none => cE .non
  | _ => stuckE
/-- xs[::-1] -/
def isRev : Option Expr → Option Expr → Option Expr → Bool
  | none, none, some (.UnaryOp .USub (.Constant (.int 1) _ _) _) => true
  | _, _, _ => false
def cSub (f : Expr → EM) (a : Expr) : Expr → EM
  | .Slice lo hi st _ => (match st with
    | none => slE (f a) (cO f lo) (cO f hi)
    | some _ => if isRev lo hi st = true then u1E revF (f a) else stuckE)
  | i => b2E ixF (f a) (f i)
/-- a comparison -/
def cCmp (f : Expr → EM) (a : Expr) : List CmpOp → List Expr → EM
  | [op], [b] => if behindInMarks op b = true then stuckE else (match cmpF op with
    | some k => b2E k (f a) (f b)
    | none => stuckE)
  | [op, op'], [b, c] => if behindInMarks op' c = true then stuckE else (match cmpF op with
    | some k => (match cmpF op' with
      | some l => chE k l (f a) (f b) (f c)
      | none => stuckE)
    | none => stuckE)
  | _, _ => stuckE
/-- isinstance(e, y), e what the suite holds -/
def cIsE (g : SC) (args : List Expr) : Option EM := match g.hx with
  | none => none
  | some (i, c) => (match args with
    | [.Name n _, .Name y _] => if slot g n = some i ∧ okName n = true ∧ okName y = true ∧ isGl g y = true ∧ isGl g "isinstance" = true ∧ g.T.free "isinstance" = true then (match g.T.sub c y with
      | some b => some (cE (.bl b))
      | none => (match g.T.subT c y with
        | some b => some (cE (.bl b))
        | none => none)) else none
    | _ => none)
def cCall (g : SC) (f : Expr → EM) (x : Str) (args : List Expr) : EM := match (if x = "isinstance" then cIsE g args else none) with
  | some m => m
  | none => if okName x = true ∧ isGl g x = true ∧ noStars args = true then (match g.T.fn x with
    | some (n, k) => if g.calm = true then (match args with
      | [] => if n = 0 then nA (callF 0 k) nilA else stuckE
      | _ :: _ => nA (callF n k) (cA f args)) else stuckE
    | none => if g.T.gcd x = true then (match args with
      | [] => stuckE
      | _ :: _ => nA (f2 gcdF) (cA f args)) else if g.T.free x = true then (match args with
      | [] => stuckE
      | _ :: _ => (match biOf x args.length with
        | some b => if b.calm = false ∨ g.calm = true then nA b.fn (cA f args) else stuckE
        | none => stuckE)) else stuckE) else stuckE
def cMeth (f : Expr → EM) (o : Expr) (m : Str) (apos cpos : Pos) (args : List Expr) : EM :=
  if baseOk o = true ∧ noStars args = true ∧ (apos.endLine == cpos.line) = true then (match mtOf m args.length with
    | some b => mtE b.ty b.f (f o) (cA f args)
    | none => stuckE) else stuckE
def cIter (g : SC) (f : Expr → EM) (e : Expr) : IM := match e with
  | .Call (.Name x _) args [] _ => if okName x = true ∧ isGl g x = true ∧ g.T.free x = true ∧ g.T.fn x = none ∧ noStars args = true ∧ (x = "range" ∨ x = "reversed") then
      (if x = "range" then (match args with
        | [a] => rngE rangeF1 (cA f [a])
        | [a, b] => rngE rangeF2 (cA f [a, b])
        | [a, b, c] => rngE rangeF3 (cA f [a, b, c])
        | _ => stuckI) else (match args with
        | [a] => revE (f a)
        | _ => stuckI)) else srcE (f e)
  | .Set _ _ _ => stuckI
  | e => srcE (f e)
def cTs (t : Expr → TM) : List Expr → TM
  | [] => yesT
  | [c] => t c
  | _ => stuckT
def isSet : Expr → Bool
  | .Set _ _ _ => true
  | _ => false
/-- a comprehension: f, t work in its block -/
def cComp (g : SC) (fi : Expr → EM) (f : Expr → EM) (t : Expr → TM) (elt : Expr) (gs : List Comprehension) (scope : Scope) : EM := match gs with
  | [⟨tg, iter, ifs, as⟩] => if as = 0 ∧ g.calm = true ∧ isSet iter = false ∧ blkC g.N g.sc scope (ownOf g scope) = true then (match cTgt (blkSC g scope) tg with
    | some tt => if (tt.slots.all fun i => ((ownOf g scope).map (·.2)).contains i) = true then compE (cIter g fi iter) ((ownOf g scope).map (·.2)) tt (cTs t ifs) (f elt) else stuckE
    | none => stuckE) else stuckE
  | _ => stuckE
/-! ### f-strings -/
def nilJ (acc : Str) : EM := fun _ h => .ok (.str acc) h
def consJ (a : EM) (r : Str → EM) (acc : Str) : EM := fun e h => (a e h).bind fun x h1 => match x with
  | .str y => if (acc ++ y).length ≤ 16777216 then r (acc ++ y) e h1 else .stuck
  | _ => .stuck
def cJ (f : Expr → EM) : List Expr → Str → EM
  | [] => nilJ
  | e :: es => consJ (f e) (cJ f es)
section
variable {X : Cx} {W : WJ}
theorem pj_all {f : Expr → EM} (hf : ∀ e, DE X W e (f e)) : ∀ es : List Expr, PJ X es (es.map fun e => tE (kx X W) W (f e))
  | [] => .nil
  | e :: es => .cons (hf e) (pj_all hf es)
theorem t_js {K : KX} {f : Expr → EM} {σ : L2.St} {Q : VK} : ∀ (es : List Expr) (acc : Str) (H : Hp), tE K W (cJ f es acc) σ H Q → tJs (es.map fun e => tE K W (f e)) acc σ H (fun out H1 => Q (.str out) H1)
  | [], acc, H, ⟨ρ, env, h, r, p⟩ => p ρ (.str acc) H r.refl is_str
  | e :: es, acc, H, ⟨ρ, env, h, rl, p⟩ => by
    refine tG_mono (PostG.bind (R := RD K) rl p) fun b H1 ⟨ρ1, h1, a1, x1, ra1, p1⟩ => ?_
    split at p1
    · rename_i y
      split at p1
      · rename_i c
        exact ⟨y, ra1.1.str, by rw [sizeLine_eq]; exact c, t_js es (acc ++ y) H1 ⟨ρ1, env, h1, rl.ext x1, p1⟩⟩
      · exact p1.elim
    · exact p1.elim
theorem de_fmt {e : Expr} {pos : Pos} {m : EM} (he : DE X W e m) : DE X W (.FormattedValue e (-1) none pos) (u1E fmtF m) :=
  pe_imp (pe_fmt he) fun σ H Q t => t_u1 (o_fmt) t
theorem de_joined {a b : Expr} {es : List Expr} {pos : Pos} {f : Expr → EM} (hf : ∀ e, DE X W e (f e)) : DE X W (.JoinedStr (a :: b :: es) pos) (cJ f (a :: b :: es) Str.empty) :=
  pe_imp (pe_joined (pj_all hf (a :: b :: es))) fun σ H Q t => t_js (a :: b :: es) Str.empty H t
end
mutual
def cEx : Nat → SC → Expr → EM
  | 0, _, _ => stuckE
  | n + 1, g, .Constant c _ _ => cConst c
  | n + 1, g, .Name x _ => cName g x
  | n + 1, g, .BinOp a op b _ => (match binF op with
    | some f => b2E f (cEx n g a) (cEx n g b)
    | none => stuckE)
  | n + 1, g, .UnaryOp op a _ => (match op with
    | .USub => u1E negF (cEx n g a)
    | .Not => u1E notF (cEx n g a)
    | _ => stuckE)
  | n + 1, g, .BoolOp op es _ => (match op with
    | .And => cAndE (cEx n g) es
    | .Or => cOrE (cEx n g) es)
  | n + 1, g, .IfExp c a b _ => ifE (cTx n g c) (cEx n g a) (cEx n g b)
  | n + 1, g, .Compare a ops bs _ => cCmp (cEx n g) a ops bs
  | n + 1, g, .Tuple es _ _ => nA tupF (cA (cEx n g) es)
  | n + 1, g, .List es _ => nA lstF (cA (cEx n g) es)
  | n + 1, g, .Subscript a i _ => cSub (cEx n g) a i
  | n + 1, g, .Call fn args ks cpos => (match fn, ks with
    | .Name x _, [] => cCall g (cEx n g) x args
    | .Attribute o m apos, [] => cMeth (cEx n g) o m apos cpos args
    | _, _ => stuckE)
  | n + 1, g, .ListComp elt gs scope _ => cComp g (cEx n g) (cEx n (blkSC g scope)) (cTx n (blkSC g scope)) elt gs scope
  | n + 1, g, .FormattedValue e conv none _ => if conv = -1 then u1E fmtF (cEx n g e) else stuckE
  | n + 1, g, .JoinedStr es _ => (match es with
    | a :: b :: r => cJ (cEx n g) (a :: b :: r) Str.empty
    | _ => stuckE)
  | _ + 1, _, _ => stuckE
def cTx : Nat → SC → Expr → TM
  | 0, _, _ => stuckT
  | n + 1, g, .UnaryOp .Not a _ => notT (cTx n g a)
  | n + 1, g, .BoolOp op es _ => (match op with
    | .And => cAnds (cTx n g) es
    | .Or => cOrs (cTx n g) es)
  | n + 1, g, .Compare a ops bs _ => tbT (cCmp (cEx n g) a ops bs)
  | n + 1, g, .IfExp _ _ _ _ => stuckT
  | n + 1, g, e => trT (cEx n g e)
end
section
variable {X : Cx} {W : WJ} {g : SC}
theorem s_cA {f : Expr → EM} (hf : ∀ e, DE X W e (f e)) : ∀ es : List Expr, DA X W es (cA f es)
  | [] => da_nil
  | e :: es => by
    unfold cA
    split
    · exact da_stuck
    · rename_i h
      exact da_cons (by cases q : isStar e <;> simp_all) (hf e) (s_cA hf es)
theorem s_ands {t : Expr → TM} (ht : ∀ e, DT X W e (t e)) (pos : Pos) : ∀ (a : Expr) (es : List Expr), DW X W (.BoolOp .And (a :: es) pos) (cAnds t (a :: es))
  | a, [] => dw_and1 (ht a)
  | a, b :: r => dw_and (ht a) (s_ands ht pos b r)
theorem s_ors {t : Expr → TM} (ht : ∀ e, DT X W e (t e)) (pos : Pos) : ∀ (a : Expr) (es : List Expr), DW X W (.BoolOp .Or (a :: es) pos) (cOrs t (a :: es))
  | a, [] => dw_or1 (ht a)
  | a, b :: r => dw_or (ht a) (s_ors ht pos b r)
theorem s_andE {t : Expr → EM} (ht : ∀ e, DE X W e (t e)) (pos : Pos) : ∀ (a : Expr) (es : List Expr), DE X W (.BoolOp .And (a :: es) pos) (cAndE t (a :: es))
  | a, [] => de_one (ht a)
  | a, b :: r => de_and (ht a) (s_andE ht pos b r)
theorem s_orE {t : Expr → EM} (ht : ∀ e, DE X W e (t e)) (pos : Pos) : ∀ (a : Expr) (es : List Expr), DE X W (.BoolOp .Or (a :: es) pos) (cOrE t (a :: es))
  | a, [] => de_one (ht a)
  | a, b :: r => de_or (ht a) (s_orE ht pos b r)
theorem s_cO {f : Expr → EM} (hf : ∀ e, DE X W e (f e)) : ∀ o : Option Expr, DO X W o (cO f o)
  | none => do_none
  | some e => do_some (hf e)
theorem s_const (c : Const) (k : Nat) (pos : Pos) : DE X W (.Constant c k pos) (cConst c) := by
  cases c with
  | int i => exact de_const pe_int (fun ρ H => by unfold Is; rfl) rfl
  | bool i => exact de_const pe_bl (fun ρ H => by unfold Is; rfl) rfl
  | str i => exact de_const pe_str (fun ρ H => by unfold Is; rfl) rfl
  | none => exact de_const pe_non (fun ρ H => by unfold Is; rfl) rfl
  | _ => exact de_stuck
theorem bfalse {b : Bool} (h : ¬ b = true) : b = false := by cases b <;> simp_all
theorem s_cmp {f : Expr → EM} (c : CxOk g X W) (hf : ∀ e, DE X W e (f e)) (a : Expr) (ops : List CmpOp) (bs : List Expr) (pos : Pos) : DE X W (.Compare a ops bs pos) (cCmp f a ops bs) := by
  unfold cCmp
  split
  · split
    · exact de_stuck
    · rename_i h
      split
      · rename_i k e
        obtain ⟨r, h1, h2⟩ := cmpF_ok c e
        exact de_cmp h1 h2 (hf a) (hf _) (bfalse h)
      · exact de_stuck
  · split
    · exact de_stuck
    · rename_i h
      split
      · rename_i k e
        split
        · rename_i l e'
          obtain ⟨r, h1, h2⟩ := cmpF_ok c e
          obtain ⟨r', h3, h4⟩ := cmpF_ok c e'
          exact de_ch h1 h3 h2 h4 (hf a) (hf _) (hf _) (bfalse h)
        · exact de_stuck
      · exact de_stuck
  · exact de_stuck
theorem t_stuckT {e : Expr} : DT X W e (tbT stuckE) := ⟨fun _ _ _ _ _ _ ⟨_, _, _, _, p⟩ => False.elim p⟩
theorem s_cmpT {f : Expr → EM} (c : CxOk g X W) (hf : ∀ e, DE X W e (f e)) (a : Expr) (ops : List CmpOp) (bs : List Expr) (pos : Pos) : DT X W (.Compare a ops bs pos) (tbT (cCmp f a ops bs)) := by
  unfold cCmp
  split
  · split
    · exact t_stuckT
    · rename_i h
      split
      · rename_i k e
        obtain ⟨r, h1, h2⟩ := cmpF_ok c e
        exact dt_cmp h1 h2 (hf a) (hf _) (bfalse h)
      · exact t_stuckT
  · split
    · exact t_stuckT
    · rename_i h
      split
      · rename_i k e
        split
        · rename_i l e'
          obtain ⟨r, h1, h2⟩ := cmpF_ok c e
          obtain ⟨r', h3, h4⟩ := cmpF_ok c e'
          exact dt_ch h1 h3 h2 h4 (hf a) (hf _) (hf _) (bfalse h)
        · exact t_stuckT
      · exact t_stuckT
  · exact t_stuckT
theorem s_sub {f : Expr → EM} (hf : ∀ e, DE X W e (f e)) (a i : Expr) (pos : Pos) : DE X W (.Subscript a i pos) (cSub f a i) := by
  cases i with
  | Slice lo hi st p =>
    cases st with
    | none => exact de_sl (hf a) (s_cO hf lo) (s_cO hf hi)
    | some e =>
      show DE X W _ (if isRev lo hi (some e) = true then u1E revF (f a) else stuckE)
      split
      · rename_i h
        unfold isRev at h
        split at h
        · rename_i e'
          cases e'
          exact de_rev (hf a)
        · cases h
      · exact de_stuck
  | _ => exact de_ix rfl (hf a) (hf _)
theorem s_call {f : Expr → EM} (c : CxOk g X W) (hf : ∀ e, DE X W e (f e)) (x : Str) (args : List Expr) (p pos : Pos) : DE X W (.Call (.Name x p) args [] pos) (cCall g f x args) := by
  unfold cCall
  split
  · rename_i m e
    split at e
    · rename_i ex
      subst ex
      unfold cIsE at e
      split at e
      · cases e
      · rename_i i cn hh
        split at e
        · rename_i n np y yp
          split at e
          · rename_i cc
            obtain ⟨c1, c2, c3, c4, c5, c6⟩ := cc
            split at e
            · rename_i b sb
              cases e
              obtain ⟨a, oe, pn, X0, w1, hz, hv, ex⟩ := c.hx i cn hh
              obtain ⟨h1, h2⟩ := slot_is c c1
              obtain ⟨o1, o2, o3⟩ := okName_is c2
              obtain ⟨q1, q2, q3⟩ := okName_is c3
              obtain ⟨k1, k2, k3, k4⟩ := c.tab.sub cn y b sb
              have hc : CallR X (.builtin "isinstance") (rIsE X.K (He.ga X.K cn) a) := by
                subst ex
                exact call_isE k4 hz hv
              have pe := pe_callB (p := p) (pos := pos) hc (gl_is c c5) (c.tab.free _ c6) (by decide +kernel) (pa_cons (pe_var (pos := np) h1 h2 o1 o2) (pa_cons (pe_glob (pos := yp) (v := .ref (He.ga X.K y)) (gl_is c c4) k1 rfl q1) pa_nil (by rfl)) (by rfl)) (by decide) (by decide) (by rfl) (by rfl)
              refine pe_imp pe fun σ H Q ⟨ρ, env, h, rl, p⟩ => ?_
              have inv := rl.eis.inv
              have e1 : (kx X W).hx = some (i, a) := w1
              have e2 : σ[i]? = some (some (.ref a)) := by
                unfold KX.J at inv
                rw [e1] at inv
                exact inv
              refine ⟨_, e2, .ref (He.ga X.K y), .ref (He.ga X.K y), b, rfl, fun u hu => hu, k3, ?_⟩
              exact p ρ (.bl b) H rl.refl is_bl
            · split at e
              · rename_i b sb
                cases e
                obtain ⟨a, oe, pn, X0, w1, hz, hv, ex⟩ := c.hx i cn hh
                obtain ⟨h1, h2⟩ := slot_is c c1
                obtain ⟨o1, o2, o3⟩ := okName_is c2
                obtain ⟨q1, q2, q3⟩ := okName_is c3
                obtain ⟨k1, rfl, k3, k4⟩ := c.tab.subT cn y b sb
                have hc : CallR X (.builtin "isinstance") (rIsE X.K (He.ga X.K cn) a) := by
                  subst ex
                  exact call_isE k4 hz hv
                have pe := pe_callB (p := p) (pos := pos) hc (gl_is c c5) (c.tab.free _ c6) (by decide +kernel) (pa_cons (pe_var (pos := np) h1 h2 o1 o2) (pa_cons (pe_bltn (pos := yp) (v := .ty "ValueError") (gl_is c c4) k1 (by decide +kernel) rfl q3 q1) pa_nil (by rfl)) (by rfl)) (by decide) (by decide) (by rfl) (by rfl)
                refine pe_imp pe fun σ H Q ⟨ρ, env, h, rl, p⟩ => ?_
                have inv := rl.eis.inv
                have e1 : (kx X W).hx = some (i, a) := w1
                have e2 : σ[i]? = some (some (.ref a)) := by
                  unfold KX.J at inv
                  rw [e1] at inv
                  exact inv
                refine ⟨_, e2, .ty "ValueError", .type "ValueError", b, rfl, fun u hu => hu, k3, ?_⟩
                exact p ρ (.bl b) H rl.refl is_bl
              · cases e
          · cases e
        · cases e
    · cases e
  · split
    · rename_i cc
      obtain ⟨c1, c2, c3⟩ := cc
      obtain ⟨o1, o2, o3⟩ := okName_is c1
      split
      · rename_i n k e
        split
        · rename_i hc
          obtain ⟨x1, x2, x3, x4⟩ := c.calm hc
          obtain ⟨w, hx⟩ := W
          have x2 : hx = none := x2
          subst x2
          obtain ⟨a, fd, ps, t1, t2, t3, t4⟩ := c.tab.fn x n k e
          cases args with
          | nil =>
            dsimp only
            split
            · rename_i hn
              subst hn
              exact de_call0 t4 x4 (gl_is c c2) t1 t2 t3 c.tk o1
            · exact de_stuck
          | cons e1 es => exact de_call t4 x4 (gl_is c c2) t1 t2 t3 c.tk (s_cA hf (e1 :: es)) o1 c3
        · exact de_stuck
      · split
        · rename_i hg
          cases args with
          | nil => exact de_stuck
          | cons e1 es => exact pe_imp (pe_callBfun cr_gcd (gl_is c c2) (c.tab.gcd x hg) (s_cA hf (e1 :: es)) o1 (star_no (noStars_head c3).1 es _) (noStars_any (noStars_head c3).2 pos _)) fun σ H Q t => t_nA o_gcd t
        split
        · rename_i hfree
          cases args with
          | nil => exact de_stuck
          | cons e1 es =>
            dsimp only
            split
            · rename_i b e
              split
              · rename_i hb
                refine bi_ok e (fun hk => ?_) (gl_is c c2) (c.tab.free x hfree) o3 o1 p pos e1 es _ (s_cA hf (e1 :: es)) c3
                rcases hb with hb | hb
                · rw [hb] at hk; cases hk
                · exact (c.calm hb).1
              · exact de_stuck
            · exact de_stuck
        · exact de_stuck
    · exact de_stuck
theorem s_meth {f : Expr → EM} (hf : ∀ e, DE X W e (f e)) (o : Expr) (m : Str) (apos cpos : Pos) (args : List Expr) : DE X W (.Call (.Attribute o m apos) args [] cpos) (cMeth f o m apos cpos args) := by
  unfold cMeth
  split
  · rename_i cc
    split
    · rename_i b e
      refine mt_ok e rfl (hf o) (s_cA hf args) (fun hz => ?_) cc.1 cc.2.1 cc.2.2
      have : args = [] := List.eq_nil_of_length_eq_zero hz
      subst this
      rfl
    · exact de_stuck
  · exact de_stuck
theorem s_iter {f : Expr → EM} {tg : Expr} (c : CxOk g X W) (hf : ∀ e, DE X W e (f e)) (e : Expr) : DI X W tg e (cIter g f e) := by
  unfold cIter
  split
  · rename_i x p args pos
    split
    · rename_i cc
      obtain ⟨c1, c2, c3, c4, c5, c6⟩ := cc
      split
      · rename_i ex
        subst ex
        split
        · exact di_range1 (gl_is c c2) (c.tab.free _ c3) (s_cA hf _) c5
        · exact di_range2 (gl_is c c2) (c.tab.free _ c3) (s_cA hf _) c5
        · exact di_range3 (gl_is c c2) (c.tab.free _ c3) (s_cA hf _) c5
        · exact di_stuck
      · rename_i ex
        have ex2 : x = "reversed" := c6.resolve_left ex
        subst ex2
        split
        · exact di_rev (gl_is c c2) (c.tab.free _ c3) (hf _) c5
        · exact di_stuck
    · exact di_expr (hf _)
  · exact di_stuck
  · exact di_expr (hf _)
theorem iter_plain {e : Expr} (h : isSet e = false) (env : PySem.Env) (x : Value) : foldedSetIterable e env x = pure x := by
  cases e <;> first | rfl | cases h
/-! ### targets -/
theorem s_names (c : CxOk g X W) : ∀ {ts : List Expr} {l : List Nat}, nameSlots g ts = some l → PGs X ts (gNames l) ∧ (∀ e ∈ ts, ∃ x p, e = Expr.Name x p) ∧ ts.length = l.length
  | [], l, h => by
    cases h
    exact ⟨pgs_nil, (fun e he => nomatch he), rfl⟩
  | e :: r, l, h => by
    unfold nameSlots at h
    split at h
    · rename_i q
      cases q
    · rename_i x p rest ee
      obtain ⟨rfl, rfl⟩ : e = .Name x p ∧ r = rest := by injection ee with e1 e2; exact ⟨e1, e2⟩
      split at h
      · rename_i i hi
        split at h
        · rename_i l' hl
          cases h
          obtain ⟨h1, h2, h3⟩ := s_names c hl
          obtain ⟨n1, n2, n3⟩ := sslot_is c hi
          refine ⟨pgs_cons (pg_name (by rw [c.hN]; exact c.nd) n1 n2 n3) h1 (by rfl), fun e he => ?_, by rw [List.length_cons, List.length_cons, h3]⟩
          rcases List.mem_cons.mp he with z | z
          · exact ⟨x, p, z⟩
          · exact h2 e z
        · cases h
      · cases h
    · cases h
theorem hxFree_is (c : CxOk g X W) {t : Tgt} (h : hxFree g t = true) : ∀ i ∈ t.slots, (kx X W).can i := by
  intro i hi
  unfold hxFree at h
  cases e : g.hx with
  | none =>
    have := c.hx0 e
    show (match W.hx with | none => True | some (j, _) => i ≠ j)
    rw [this]; trivial
  | some p =>
    obtain ⟨j, cn⟩ := p
    rw [e] at h
    obtain ⟨a, oe, pn, X0, w1, _⟩ := c.hx j cn e
    show (match W.hx with | none => True | some (j, _) => i ≠ j)
    rw [w1]
    intro z
    have h' : (!(t.slots.contains j)) = true := h
    have : t.slots.contains j = true := by rw [← z]; simpa using hi
    rw [this] at h'; cases h'
theorem s_tgt (c : CxOk g X W) {tg : Expr} {t : Tgt} (h : cTgt g tg = some t) (hf : hxFree g t = true) : ∃ gg, PG X tg gg ∧ TgOk (kx X W) t gg := by
  have can := hxFree_is c hf
  unfold cTgt at h
  split at h
  · split at h
    · rename_i i hi
      cases h
      obtain ⟨n1, n2, n3⟩ := sslot_is c hi
      exact ⟨_, pg_name (by rw [c.hN]; exact c.nd) n1 n2 n3, tg_one i (can i (by simp [Tgt.slots]))⟩
    · cases h
  · rename_i ts k pos
    split at h
    · rename_i hc
      split at h
      · rename_i l hl
        cases h
        obtain ⟨h1, h2, h3⟩ := s_names c hl
        obtain ⟨a1, a2⟩ := assignEach_len ts X.env h2
        have cal := (c.calm hc).1
        refine ⟨_, pg_or (pg_tup (n := l.length) cal h1 (by rw [a1, h3]) a2) (pg_lst (n := l.length) cal h1 (by rw [a1, h3]) a2), tg_many l can⟩
      · cases h
    · cases h
  · cases h
theorem hxFree_calm (c : CxOk g X W) (hc : g.calm = true) (t : Tgt) : hxFree g t = true := by
  unfold hxFree
  rw [(c.calm hc).2.2.1]
theorem blk_ok (c : CxOk g X W) (hc : g.calm = true) {scope : Scope} (hb : blkC g.N g.sc scope (ownOf g scope) = true) (s : Shared) (H : Hp) (C : Addr) (cl : List (Str × Addr)) (fp : List Addr) : CxOk (blkSC g scope) (BlkCx X scope s H C cl fp) W0 where
  hN := c.hN
  nd := c.nd
  sc := by
    show relabel scope X.env = relS scope g.sc
    rw [← c.sc]; rfl
  calm := fun _ => ⟨(c.calm hc).1, rfl, rfl, (c.calm hc).2.2.2⟩
  tk := takes0
  po := PassesOwn.never
  top := fun h => nomatch h
  fn := fun x h => h
  tab := c.tab
  units := c.units
  kind := (blkOk_by hb).kind
  hx := fun i cn h => nomatch h
  hx0 := fun _ => rfl
theorem s_cTs {t : Expr → TM} (ht : ∀ e, DT X W e (t e)) (es : List Expr) : DTs X W es (cTs t es) := by
  unfold cTs
  split
  · exact dts_nil
  · exact dts_one (ht _)
  · exact ⟨fun _ _ _ _ _ _ ⟨_, _, _, _, p⟩ => False.elim p⟩
/-- the parts of a comprehension's rule -/
theorem comp_parts {fi f : Expr → EM} {t : Expr → TM} (c : CxOk g X W) (hfi : ∀ e, DE X W e (fi e)) {scope : Scope} (hf : ∀ (g' : SC) (X' : Cx) (W' : WJ), g' = blkSC g scope → CxOk g' X' W' → ∀ e, DE X' W' e (f e)) (ht : ∀ (g' : SC) (X' : Cx) (W' : WJ), g' = blkSC g scope → CxOk g' X' W' → ∀ e, DT X' W' e (t e))
    (elt : Expr) (gs : List Comprehension) (pos : Pos) : DE X W (.ListComp elt gs scope pos) (cComp g fi f t elt gs scope) ∧
    (∀ (i : Nat) (y : Str) (py spos : Pos), X.N[i]? = some y → X.env.scope.names.lookup y = some .local → swapsWith (.ListComp elt gs scope pos) (some (.Name y py)) spos.line X.env = pure true → DS X W (.Assign [.Name y py] (.ListComp elt gs scope pos) spos) (asgS (cComp g fi f t elt gs scope) (.one i))) := by
  unfold cComp
  have stk : ∀ (i : Nat) (y : Str) (py spos : Pos) (e : Expr), DS X W (.Assign [.Name y py] e spos) (asgS stuckE (.one i)) := fun i y py spos e => ⟨fun _ _ _ _ _ _ ⟨_, _, _, _, p⟩ => False.elim p⟩
  split
  · rename_i tg iter ifs as
    split
    · rename_i cc
      obtain ⟨c1, c2, c3, c4⟩ := cc
      subst c1
      split
      · rename_i tt et
        split
        · rename_i hs
          obtain ⟨x1, x2, x3, x4⟩ := c.calm c2
          have bo := blkOk_by c4
          rw [← c.hN, ← c.sc] at bo
          have ho : ∀ i ∈ tt.slots, i ∈ (ownOf g scope).map (·.2) := fun i hi => by simpa using List.all_eq_true.mp hs i hi
          obtain ⟨w, hx⟩ := W
          have x2 : hx = none := x2
          subst x2
          have iter_ok := fun (tg : Expr) => s_iter (tg := tg) c hfi iter
          have nd : X.N.Nodup := by rw [c.hN]; exact c.nd
          -- the target is the same in every block
          have tgs : ∃ gg, (∀ s H C cl fp, PG (BlkCx X scope s H C cl fp) tg gg) ∧ TgOk ⟨X.K, none⟩ tt gg := by
            have fr : hxFree (blkSC g scope) tt = true := rfl
            unfold cTgt at et
            split at et
            · split at et
              · rename_i x px i hi
                cases et
                refine ⟨gName i, fun s H C cl fp => ?_, tg_one i trivial⟩
                have cb := blk_ok c c2 c4 s H C cl fp
                obtain ⟨n1, n2, n3⟩ := sslot_is cb hi
                exact pg_name nd n1 n2 n3
              · cases et
            · rename_i ts k tpos
              split at et
              · split at et
                · rename_i l hl
                  cases et
                  refine ⟨gMany ⟨X.K, none⟩ l.length (gNames l), fun s H C cl fp => ?_, tg_many (K := ⟨X.K, none⟩) l (fun i hi => trivial)⟩
                  have cb := blk_ok c c2 c4 s H C cl fp
                  obtain ⟨h1, h2, h3⟩ := s_names cb hl
                  obtain ⟨a1, a2⟩ := assignEach_len ts (BlkCx X scope s H C cl fp).env h2
                  exact pg_or (pg_tup (n := l.length) x1 h1 (by rw [a1, h3]) a2) (pg_lst (n := l.length) x1 h1 (by rw [a1, h3]) a2)
                · cases et
              · cases et
            · cases et
          obtain ⟨gg, tg1, tg2⟩ := tgs
          refine ⟨?_, fun i y py spos hy hyl hsw => ?_⟩
          · exact de_comp x1 nd (iter_ok tg) bo tg2 ho tg1 (fun s H C cl fp => s_cTs (ht _ _ _ rfl (blk_ok c c2 c4 s H C cl fp)) ifs) (fun s H C cl fp => hf _ _ _ rfl (blk_ok c c2 c4 s H C cl fp) elt) (iter_plain c3 _)
          · exact ds_setc x1 nd hy hyl hsw (iter_ok tg) bo tg2 ho tg1 (fun s H C cl fp => s_cTs (ht _ _ _ rfl (blk_ok c c2 c4 s H C cl fp)) ifs) (fun s H C cl fp => hf _ _ _ rfl (blk_ok c c2 c4 s H C cl fp) elt) (iter_plain c3 _)
        · exact ⟨de_stuck, fun i y py spos _ _ _ => stk i y py spos _⟩
      · exact ⟨de_stuck, fun i y py spos _ _ _ => stk i y py spos _⟩
    · exact ⟨de_stuck, fun i y py spos _ _ _ => stk i y py spos _⟩
  · exact ⟨de_stuck, fun i y py spos _ _ _ => stk i y py spos _⟩
/-- THE COMPILER IS RIGHT -/
theorem s_all : ∀ n : Nat, (∀ (g : SC) (X : Cx) (W : WJ), CxOk g X W → ∀ e, DE X W e (cEx n g e)) ∧ (∀ (g : SC) (X : Cx) (W : WJ), CxOk g X W → ∀ e, DT X W e (cTx n g e))
  | 0 => ⟨fun g X W c e => by unfold cEx; exact de_stuck, fun g X W c e => by unfold cTx; exact dt_stuck⟩
  | n + 1 => by
    obtain ⟨ie, it⟩ := s_all n
    have he : ∀ (g : SC) (X : Cx) (W : WJ), CxOk g X W → ∀ e, DE X W e (cEx (n + 1) g e) := fun g X W c e => by
      cases e with
      | Constant k j pos => exact s_const k j pos
      | Name x pos => exact s_name c x pos
      | BinOp a op b pos =>
        show DE X W _ (match binF op with | some f => b2E f (cEx n g a) (cEx n g b) | none => stuckE)
        split
        · rename_i f e
          obtain ⟨r, h1, h2⟩ := binF_ok e
          exact de_bin h1 h2 (ie g X W c a) (ie g X W c b)
        · exact de_stuck
      | UnaryOp op a pos =>
        cases op with
        | USub => exact de_un un_neg o_neg (ie g X W c a)
        | Not => exact de_not (ie g X W c a)
        | _ => exact de_stuck
      | BoolOp op es pos =>
        cases op with
        | And =>
          cases es with
          | nil => exact de_stuck
          | cons a r => exact s_andE (ie g X W c) pos a r
        | Or =>
          cases es with
          | nil => exact de_stuck
          | cons a r => exact s_orE (ie g X W c) pos a r
      | IfExp t a b pos => exact de_if (it g X W c t) (ie g X W c a) (ie g X W c b)
      | Compare a ops bs pos => exact s_cmp c (ie g X W c) a ops bs pos
      | Tuple es k pos => exact de_tup (s_cA (ie g X W c) es)
      | List es pos => exact de_lst (s_cA (ie g X W c) es)
      | Subscript a i pos => exact s_sub (ie g X W c) a i pos
      | Call fn args ks cpos =>
        cases ks with
        | cons _ _ => cases fn <;> exact de_stuck
        | nil =>
          cases fn with
          | Name x p => exact s_call c (ie g X W c) x args p cpos
          | Attribute o m apos => exact s_meth (ie g X W c) o m apos cpos args
          | _ => exact de_stuck
      | FormattedValue e conv sp pos =>
        cases sp with
        | some _ => exact de_stuck
        | none =>
          show DE X W _ (if conv = -1 then u1E fmtF (cEx n g e) else stuckE)
          split
          · rename_i q
            subst q
            exact de_fmt (ie g X W c e)
          · exact de_stuck
      | JoinedStr es pos =>
        cases es with
        | nil => exact de_stuck
        | cons a r =>
          cases r with
          | nil => exact de_stuck
          | cons b r => exact de_joined (ie g X W c)
      | ListComp elt gs scope pos => exact (comp_parts c (ie g X W c) (fun g' X' W' eg c' => by subst eg; exact ie _ X' W' c') (fun g' X' W' eg c' => by subst eg; exact it _ X' W' c') elt gs pos).1
      | _ => exact de_stuck
    refine ⟨he, fun g X W c e => ?_⟩
    cases e with
    | UnaryOp op a pos =>
      cases op with
      | Not => exact dt_not (it g X W c a)
      | _ => exact dt_truth (ie g X W c _) rfl
    | BoolOp op es pos =>
      cases op with
      | And =>
        cases es with
        | nil => exact dt_stuck
        | cons a r => exact (s_ands (it g X W c) pos a r).pt
      | Or =>
        cases es with
        | nil => exact dt_stuck
        | cons a r => exact (s_ors (it g X W c) pos a r).pt
    | Compare a ops bs pos => exact s_cmpT c (ie g X W c) a ops bs pos
    | IfExp _ _ _ _ => exact dt_stuck
    | _ => exact dt_truth (ie g X W c _) rfl
end
end Dy

/-! The compiler of statements, and that it is right; defs. -/
namespace Dy
open PySem PySem.Spec PyProof.Rows L2
/-- does a comprehension that is given to a name keep its place (PEP 709's exchange) -/
def swB (g : SC) (y : Str) (py : Pos) (scope : Scope) (lpos : Pos) : Bool :=
  g.sc.names.lookup y == some .local && py.line == lpos.line && !(scope.names.any fun (n, k) => n == y && (k == .local || k == .cell))
def suiteSC (g : SC) (hx : Option (Nat × Str)) : SC := { g with calm := false, top := false, hx := hx }
def isTupE : Expr → Bool
  | .Tuple _ _ _ => true
  | _ => false
/-- a, b = x, y: both local names -/
def parS (m : AM) (i j : Nat) : SM := fun e h => (m e h).bindS e fun vs h1 => match vs with
  | [v, w] => .nxt ((e.set i (some v)).set j (some w)) h1
  | _ => .stuck
def parOk (g : SC) (x y : Str) (px py : Pos) (es : List Expr) : Bool :=
  g.sc.names.lookup x == some .local && g.sc.names.lookup y == some .local && px.line == py.line && !(x == y) && !(es.all (foldedForSure 8)) && !(es.all (constantsAlone 8)) && noStars es && es.length == 2
def cAsgn (g : SC) (f : Expr → EM) (tg e : Expr) : SM := match tg with
  | .Name x _ => (match sslot g x with
    | some i => if hxFree g (.one i) = true then (match e with
      | .SetComp _ _ _ _ => stuckS
      | .DictComp _ _ _ _ _ => stuckS
      | e => asgS (f e) (.one i)) else stuckS
    | none => stuckS)
  | .Tuple ts _ _ => if isTupE e = true then (match ts, e with
      | [.Name x px, .Name y py], .Tuple es _ _ => (match sslot g x, sslot g y with
        | some i, some j => if g.calm = true ∧ parOk g x y px py es = true ∧ i ≠ j then parS (cA f es) i j else stuckS
        | _, _ => stuckS)
      | _, _ => stuckS) else if notComp e = true then (match cTgt g tg with
      | some t => if hxFree g t = true then asgS (f e) t else stuckS
      | none => stuckS) else stuckS
  | .Subscript o i _ => if isSlice i = true then stuckS else sixS (f e) (f o) (f i)
  | _ => stuckS
def cRaise (g : SC) (e : Expr) : SM := match e with
  | .Call (.Name x _) [.Constant (.str _) _ _] [] _ => if g.calm = true ∧ okName x = true ∧ isGl g x = true ∧ g.T.exc x = true then raiseS x else stuckS
  | _ => stuckS
def subOf (g : SC) (x : Str) (c : Str) : Option Bool := if g.T.exc c = true then g.T.sub c x else none
mutual
def cSt : Nat → SC → Stmt → SM
  | 0, _, _ => stuckS
  | n + 1, g, .Expr e _ => (match e with
    | .Constant (.str _) _ _ => nextS
    | e => if notComp e = true then exprS (cEx 60 g e) else stuckS)
  | n + 1, g, .Return e _ => (match e with
    | some e => retS (cEx 60 g e)
    | none => retNS)
  | n + 1, g, .Assign ts e _ => (match ts with
    | [tg] => cAsgn g (cEx 60 g) tg e
    | _ => stuckS)
  | n + 1, g, .If c a b _ => ifS (cTx 60 g c) (cSs n g a) (cSs n g b)
  | n + 1, g, .For tg iter body orelse _ => (match orelse with
    | [] => if g.calm = true ∧ isSet iter = false then (match cTgt g tg with
      | some t => if hxFree g t = true then forS (cIter g (cEx 60 g) iter) t (cSs n g body) else stuckS
      | none => stuckS) else stuckS
    | _ => stuckS)
  | n + 1, g, .While c body orelse _ => (match orelse with
    | [] => whileS 1000000 (cTx 60 g c) (cSs n g body)
    | _ => stuckS)
  | n + 1, g, .Raise e cause _ => (match e, cause with
    | some e, none => cRaise g e
    | _, _ => stuckS)
  | n + 1, g, .Try body hs orelse fin _ => (match hs, orelse, fin with
    | [.ExceptHandler (some (.Name x _)) nm (b₀ :: suite) _], [], [] => if g.top = true ∧ g.calm = true ∧ okName x = true ∧ isGl g x = true ∧ g.T.exc x = true then (match nm with
      | none => tryS (cSs n g body) none (subOf g x) fun _ => cSs n (suiteSC g none) (b₀ :: suite)
      | some nm => (match g.sc.names.lookup nm, ixOf g.N nm with
        | some .local, some i => tryS (cSs n g body) (some i) (subOf g x) fun c => cSs n (suiteSC g (some (i, c))) (b₀ :: suite)
        | _, _ => stuckS)) else stuckS
    | _, _, _ => stuckS)
  | n + 1, g, .Pass _ => nextS
  | n + 1, g, .Break _ => brkS
  | n + 1, g, .Continue _ => cntS
  | _ + 1, _, _ => stuckS
def cSs : Nat → SC → List Stmt → SM
  | 0, _, _ => stuckS
  | n + 1, g, [] => nextS
  | n + 1, g, st :: rest => seqS (cSt n g st) (cSs n g rest)
end
section
variable {X : Cx} {W : WJ} {g : SC}
theorem mark_units (A : Around) (v : Option Value) : (A.mark v).units = A.units := rfl
theorem suite_ok (c : CxOk g X W) {i : Nat} {cn : Str} (a : Addr) (oe : Obj) (pn : List (Addr × Obj)) (hz : Zc (.ref (He.ga X.K cn)) none oe) (hd : ∃ vs, oe.data = .fields vs) : CxOk (suiteSC g (some (i, cn))) (X.suite a ((a, oe) :: pn)) ⟨fun _ _ _ _ => False, some (i, a)⟩ where
  hN := c.hN
  nd := c.nd
  sc := c.sc
  calm := fun h => nomatch h
  tk := takes0
  po := PassesOwn.never
  top := fun h => nomatch h
  fn := c.fn
  tab := c.tab
  units := c.units
  kind := c.kind
  hx := fun j d h => by
    have h' : (some (i, cn) : Option (Nat × Str)) = some (j, d) := h
    cases h'
    exact ⟨a, oe, pn, X, rfl, hz, hd, rfl⟩
  hx0 := fun h => nomatch h
theorem suite_ok0 (c : CxOk g X W) (a : Addr) (oe : Obj) (pn : List (Addr × Obj)) : CxOk (suiteSC g none) (X.suite a ((a, oe) :: pn)) ⟨fun _ _ _ _ => False, none⟩ where
  hN := c.hN
  nd := c.nd
  sc := c.sc
  calm := fun h => nomatch h
  tk := takes0
  po := PassesOwn.never
  top := fun h => nomatch h
  fn := c.fn
  tab := c.tab
  units := c.units
  kind := c.kind
  hx := fun j d h => nomatch h
  hx0 := fun _ => rfl
theorem tr_ok (c : CxOk g X W) (hc : g.calm = true) (w' : WX) (pn : List (Addr × Obj)) (xe : Value → Shared → Prop) (tk : Takes (X.tr pn xe) w') (po : PassesOwn (model X.prog X.w) X.A X.env xe) : CxOk g (X.tr pn xe) ⟨w', none⟩ where
  hN := c.hN
  nd := c.nd
  sc := c.sc
  calm := fun _ => ⟨(c.calm hc).1, rfl, (c.calm hc).2.2.1, (c.calm hc).2.2.2⟩
  tk := tk
  po := po
  top := c.top
  fn := c.fn
  tab := c.tab
  units := c.units
  kind := c.kind
  hx := fun j d h => by rw [(c.calm hc).2.2.1] at h; cases h
  hx0 := fun _ => rfl
theorem block_fun (c : CxOk g X W) : X.env.blockKind = .function := by
  unfold Env.blockKind
  rw [c.sc, c.kind]; rfl
theorem swaps_name (c : CxOk g X W) (elt : Expr) (gs : List Comprehension) (scope : Scope) (lpos : Pos) (y : Str) (py : Pos) (l : Nat) : swapsWith (.ListComp elt gs scope lpos) (some (.Name y py)) l X.env = pure (swB g y py scope lpos) := by
  have hb := block_fun c
  have hk : X.env.kindOf y = g.sc.names.lookup y := by show X.env.scope.names.lookup y = _; rw [c.sc]
  unfold swapsWith swB
  simp only [hb, hk, Expr.pos]
  rfl
theorem swaps_sub (e o i : Expr) (p : Pos) (l : Nat) (env : PySem.Env) : swapsWith e (some (.Subscript o i p)) l env = pure false := by
  cases e <;> rfl
theorem swapped_one {tg e : Expr} (h : isTupE e = false) (env : PySem.Env) : swappedStores [tg] e env = pure none := by
  cases e <;> first | (cases h; done) | (cases tg <;> rfl)
theorem swapped_sub {o i e : Expr} {p : Pos} (env : PySem.Env) : swappedStores [.Subscript o i p] e env = pure none := by
  cases e <;> rfl
theorem ds_par {i j : Nat} {x y : Str} {es : List Expr} {ma : AM} {px py pt : Pos} {kt k2 : Nat} {pt2 pos : Pos} (c : CxOk g X W) (hc : g.calm = true) (hp : parOk g x y px py es = true) (hi : X.N[i]? = some x) (hj : X.N[j]? = some y) (hij : i ≠ j) (ha : DA X W es ma) :
    DS X W (.Assign [.Tuple [.Name x px, .Name y py] kt pt] (.Tuple es k2 pt2) pos) (parS ma i j) := by
  unfold parOk at hp
  simp only [Bool.and_eq_true, Bool.not_eq_true'] at hp
  obtain ⟨⟨⟨⟨⟨⟨⟨h1, h2⟩, h3⟩, h4⟩, h5⟩, h6⟩, h7⟩, h8⟩ := hp
  have hx : X.env.scope.names.lookup x = some .local := by rw [c.sc]; exact eq_of_beq h1
  have hy : X.env.scope.names.lookup y = some .local := by rw [c.sc]; exact eq_of_beq h2
  have hl : es.length = 2 := eq_of_beq h8
  match es, hl with
  | [a, b], _ =>
    have hb := block_fun c
    have kx1 : X.env.kindOf x = some .local := hx
    have ky1 : X.env.kindOf y = some .local := hy
    have sa : isStar a = false := (noStars_head h7).1
    have sb : isStar b = false := (noStars_head (noStars_head h7).2).1
    have hw : swappedStores [.Tuple [.Name x px, .Name y py] kt pt] (.Tuple [a, b] k2 pt2) X.env = pure (some [x, y]) := by
      have st : ([a, b].any fun | .Starred .. => true | _ => false) = false := by
        cases a <;> first | (cases sa; done) | (cases b <;> first | rfl | (cases sb; done))
      have hne : (x == y) = false := h4
      have hnl : px.line = py.line := eq_of_beq h3
      unfold swappedStores
      simp only [st, hb, h5, h6]
      simp [kx1, ky1, hnl, Expr.pos, List.eraseDups, List.eraseDupsBy, List.eraseDupsBy.loop, hne]
      have hxy : ¬ y = x := fun e => by rw [e] at hne; simp at hne
      have hyx : (y == x) = false := by simpa using hxy
      simp [hyx, hne]
      intro hst
      exfalso
      rcases hst with z | z
      · cases a <;> first | (cases sa; done) | exact Bool.false_ne_true z
      · cases b <;> first | (cases sb; done) | exact Bool.false_ne_true z
    obtain ⟨cal, w2, _, _⟩ := c.calm hc
    have nd : X.N.Nodup := by rw [c.hN]; exact c.nd
    refine ps_imp (ps_par cal nd hi hj hij hx hy ha hw) fun D σ H ⟨ρ, env, h, rl, p⟩ => ?_
    refine tG_mono (PostS.bind (R := RL (kx X W)) rl p) fun vs H1 ⟨ρ1, h1, d, x1, r1, p1⟩ => ?_
    have can : ∀ n, (kx X W).can n := fun n => by show (match W.hx with | none => True | some (j, _) => n ≠ j); rw [w2]; trivial
    split at p1
    · rename_i v w
      obtain ⟨a1, b1, rfl, ia, ib⟩ := r1.1.two
      have l : mrL [v, w] ≤ h1.cs.length := r1.2
      unfold mrL at l
      unfold mrL at l
      have rl1 := rl.ext x1
      have r2 := Rel.set (can i) rl1 (i := i) (d := v) (v := a1) ⟨ia, by omega⟩
      have r3 := Rel.set (can j) r2 (i := j) (d := w) (v := b1) ⟨ib, by omega⟩
      exact ⟨a1, b1, rfl, p1 ρ1 _ H1 x1.at.refl r3.eis r3.ewf⟩
    · exact p1.elim
theorem asg_stuck {tg e : Expr} {pos : Pos} : DS X W (.Assign [tg] e pos) stuckS := ds_stuck
theorem s_asgn (c : CxOk g X W) (tg e : Expr) (pos : Pos) : DS X W (.Assign [tg] e pos) (cAsgn g (cEx 60 g) tg e) := by
  have he := (s_all 60).1 g X W c
  have nd : X.N.Nodup := by rw [c.hN]; exact c.nd
  unfold cAsgn
  split
  · rename_i x px
    split
    · rename_i i hi
      split
      · rename_i hf
        obtain ⟨n1, n2, n3⟩ := sslot_is c hi
        have can := hxFree_is c hf i (by simp [Tgt.slots])
        split
        · exact ds_stuck
        · exact ds_stuck
        · rename_i h1 h2
          cases e with
          | ListComp elt gs scope lpos =>
            have sw := swaps_name c elt gs scope lpos x px pos.line
            cases hb : swB g x px scope lpos with
            | false =>
              rw [hb] at sw
              exact ds_set nd n1 n2 (he _) sw n3 can
            | true =>
              rw [hb] at sw
              have hl : X.env.scope.names.lookup x = some .local := by
                rw [c.sc]
                unfold swB at hb
                simp only [Bool.and_eq_true] at hb
                exact eq_of_beq hb.1.1
              exact (comp_parts c ((s_all 59).1 g X W c) (fun g' X' W' eg c' => by subst eg; exact (s_all 59).1 _ X' W' c') (fun g' X' W' eg c' => by subst eg; exact (s_all 59).2 _ X' W' c') elt gs lpos).2 i x px pos n1 hl sw
          | SetComp a b s p => exact absurd rfl (h1 a b s p)
          | DictComp a b d s p => exact absurd rfl (h2 a b d s p)
          | _ => exact ds_set nd n1 n2 (he _) (swaps_no rfl _ _ _) n3 can
      · exact ds_stuck
    · exact ds_stuck
  · rename_i ts kt pt
    split
    · rename_i ht
      split
      · rename_i x px y py es k2 pt2
        split
        · rename_i i j hi hj
          split
          · rename_i cc
            obtain ⟨c1, c2, c3⟩ := cc
            exact ds_par c c1 c2 (sslot_is c hi).1 (sslot_is c hj).1 c3 (s_cA he es)
          · exact ds_stuck
        · exact ds_stuck
      · exact ds_stuck
    · rename_i ht
      split
      · rename_i hn
        split
        · rename_i t et
          split
          · rename_i hf
            obtain ⟨gg, h1, h2⟩ := s_tgt c et hf
            exact ds_asg (he e) h1 h2 hn (swapped_one (bfalse ht) _) rfl
          · exact ds_stuck
        · exact ds_stuck
      · exact ds_stuck
  · rename_i o i sp
    split
    · exact ds_stuck
    · rename_i hs
      have hs := bfalse hs
      refine ps_imp (ps_asg (he e) (pg_sub (he o) (he i) set_list (fun v => by cases i <;> first | rfl | (cases hs; done))) (swaps_sub e o i sp pos.line X.env) (swapped_sub _) rfl) fun D σ H ⟨ρ, env, h, rl, p⟩ => ?_
      refine tG_mono (PostS.bind (R := RD (kx X W)) rl p) fun b H1 ⟨ρ1, h1, a1, x1, ra1, p1⟩ => ?_
      have rl1 := rl.ext x1
      refine tG_mono (PostS.bind (R := RD (kx X W)) rl1 p1) fun b2 H2 ⟨ρ2, h2, a2, x2, ra2, p2⟩ => ?_
      have rl2 := rl1.ext x2
      refine tG_mono (PostS.bind (R := RD (kx X W)) rl2 p2) fun b3 H3 ⟨ρ3, h3, a3, x3, ra3, p3⟩ => ?_
      have rl3 := rl2.ext x3
      cases e : setIx a2 a3 a1 h3 with
      | none => rw [e] at p3; exact p3.elim
      | some h4 =>
        rw [e] at p3
        refine setIx_is x3.at (ra2.ext x3 rl2.len) ra3 ((ra1.ext x2 rl1.len).ext x3 rl2.len) e fun H4 x4 => ?_
        have rl4 := rl3.ext x4
        exact p3 ρ3 σ H4 x4 rl4.eis rl4.ewf
  · exact ds_stuck
theorem s_raise (c : CxOk g X W) (e : Expr) (pos : Pos) : DS X W (.Raise (some e) none pos) (cRaise g e) := by
  unfold cRaise
  split
  · split
    · rename_i x p m j p2 pos1 cc
      obtain ⟨c1, c2, c3, c4⟩ := cc
      obtain ⟨q1, q2⟩ := c.tab.exc x c4
      obtain ⟨e1, e2, e3, e4⟩ := He.exc_ok q2
      exact ds_raise (c.calm c1).1 c.tk e1 q1 e2 (raises_own e3 e4) (gl_is c c3) (okName_is c2).1
    · exact ds_stuck
  · exact ds_stuck
theorem s_st : ∀ n : Nat, (∀ (g : SC) (X : Cx) (W : WJ), CxOk g X W → ∀ st, DS X W st (cSt n g st)) ∧ (∀ (g : SC) (X : Cx) (W : WJ), CxOk g X W → ∀ sts, DSs X W sts (cSs n g sts))
  | 0 => ⟨fun g X W c st => by unfold cSt; exact ds_stuck, fun g X W c sts => by unfold cSs; exact dss_stuck⟩
  | n + 1 => by
    obtain ⟨i1, i2⟩ := s_st n
    refine ⟨fun g X W c st => ?_, fun g X W c sts => ?_⟩
    · have he := (s_all 60).1 g X W c
      have ht := (s_all 60).2 g X W c
      cases st with
      | Expr e pos =>
        show DS X W _ (match e with
          | .Constant (.str _) _ _ => nextS
          | e => if notComp e = true then exprS (cEx 60 g e) else stuckS)
        split
        · exact ds_doc
        · split
          · rename_i h
            exact ds_expr (he _) h
          · exact ds_stuck
      | Return e pos =>
        cases e with
        | none => exact ds_retN
        | some e => exact ds_ret (he e)
      | Assign ts e pos =>
        show DS X W _ (match ts with | [tg] => cAsgn g (cEx 60 g) tg e | _ => stuckS)
        split
        · exact s_asgn c _ e pos
        · exact ds_stuck
      | If t a b pos => exact ds_if (ht t) (i2 g X W c a) (i2 g X W c b)
      | For tg iter body orelse pos =>
        cases orelse with
        | cons _ _ => exact ds_stuck
        | nil =>
          show DS X W _ (if g.calm = true ∧ isSet iter = false then (match cTgt g tg with
            | some t => if hxFree g t = true then forS (cIter g (cEx 60 g) iter) t (cSs n g body) else stuckS
            | none => stuckS) else stuckS)
          split
          · rename_i cc
            split
            · rename_i t et
              split
              · rename_i hf
                obtain ⟨gg, h1, h2⟩ := s_tgt c et hf
                exact ds_for c.po (c.calm cc.1).1 (s_iter c he iter) h1 h2 (i2 g X W c body) (iter_plain cc.2 _)
              · exact ds_stuck
            · exact ds_stuck
          · exact ds_stuck
      | While t body orelse pos =>
        cases orelse with
        | cons _ _ => exact ds_stuck
        | nil => exact ds_while c.po (ht t) (i2 g X W c body)
      | Raise e cause pos =>
        cases e with
        | none => exact ds_stuck
        | some e =>
          cases cause with
          | none => exact s_raise c e pos
          | some _ => exact ds_stuck
      | Try body hs orelse fin pos =>
        show DS X W _ (match hs, orelse, fin with
          | [.ExceptHandler (some (.Name x _)) nm (b₀ :: suite) _], [], [] => if g.top = true ∧ g.calm = true ∧ okName x = true ∧ isGl g x = true ∧ g.T.exc x = true then (match nm with
            | none => tryS (cSs n g body) none (subOf g x) fun _ => cSs n (suiteSC g none) (b₀ :: suite)
            | some nm => (match g.sc.names.lookup nm, ixOf g.N nm with
              | some .local, some i => tryS (cSs n g body) (some i) (subOf g x) fun c => cSs n (suiteSC g (some (i, c))) (b₀ :: suite)
              | _, _ => stuckS)) else stuckS
          | _, _, _ => stuckS)
        split
        · rename_i x np nm b₀ suite hp
          split
          · rename_i cc
            obtain ⟨c1, c2, c3, c4, c5⟩ := cc
            obtain ⟨x1, x2, x3, x4⟩ := c.calm c2
            obtain ⟨t1, t2⟩ := c.top c1
            obtain ⟨o1, o2, o3⟩ := okName_is c3
            obtain ⟨w, hx⟩ := W
            have x2 : hx = none := x2
            subst x2
            have nd : X.N.Nodup := by rw [c.hN]; exact c.nd
            have nm_ok : Names X x (.ref (He.ga X.K x)) := ⟨gl_is c c4, o1, .inl (c.tab.exc x c5).1⟩
            have sub_ok : ∀ d k, subOf g x d = some k → PySem.W.exmOne X.K (.ref (He.ga X.K d)) (.ref (He.ga X.K x)) = some k := fun d k h => by
              unfold subOf at h
              split at h
              · exact (c.tab.sub d x k h).2.1
              · cases h
            split
            · refine ds_try t1 t2 nm_ok c.tk sub_ok (fun w' pn xe tk po => i2 g _ _ (tr_ok c c2 w' pn xe tk po) body) (fun d a oe pn hz hd hs => i2 _ _ _ (suite_ok0 c a oe pn) (b₀ :: suite))
            · rename_i nm'
              split
              · rename_i i hl hi
                exact ds_try_as t1 t2 nd (by rw [c.hN]; exact ixOf_get hi) (by show X.env.scope.names.lookup nm' = _; rw [c.sc]; exact hl) nm_ok c.tk sub_ok (fun w' pn xe tk po => i2 g _ _ (tr_ok c c2 w' pn xe tk po) body)
                  (fun d a oe pn hz hd hs => i2 _ _ _ (suite_ok c a oe pn hz hd) (b₀ :: suite))
              · exact ds_stuck
          · exact ds_stuck
        · exact ds_stuck
      | Pass pos => exact ds_pass
      | Break pos => exact ds_brk
      | Continue pos => exact ds_cnt
      | _ => exact ds_stuck
    · cases sts with
      | nil => exact dss_nil
      | cons st rest => exact dss_cons (i1 g X W c st) (i2 g X W c rest)

/-! ### defs -/
def finF (l : Nat) (d : D) (h : PH) : Res D := .ok d (h.cut (max l (max h.lim d.mr)))
def runF (body : SM) (np nn : Nat) : Fn := fun ds h => if ds.length = np then (match body (ds.map some ++ List.replicate (nn - np) none) h with
  | .nxt _ h1 => finF h.cs.length .non h1
  | .ret d h1 => finF h.cs.length d h1
  | .exc c _ h1 => .exc c (h1.cut (max h.cs.length h1.lim))
  | _ => .stuck) else .stuck
def defSC (N : List Str) (sc : Scope) (T : Tab) (k : Nat) : SC := ⟨N, sc, T, k, true, true, none, fun _ => true⟩
theorem isL_get_some {K : KX} {ρ : List Addr} {H : Hp} {ds : List D} {vs : List V} (i : IsL K ρ H ds vs) (m : Nat) (hj : K.J (vs.map some ++ List.replicate m none)) : EnvIs K ρ H (ds.map some ++ List.replicate m none) (vs.map some ++ List.replicate m none) := by
  refine ⟨by simp [i.length], fun j d e => ?_, hj⟩
  by_cases hl : j < ds.length
  · rw [List.getElem?_append_left (by rw [List.length_map]; exact hl), List.getElem?_map] at e
    cases q : ds[j]? with
    | none => rw [q] at e; cases e
    | some d' =>
      rw [q] at e
      have : d' = d := by simpa using e
      subst this
      obtain ⟨v, e1, e2⟩ := i.get q
      refine ⟨v, ?_, e2⟩
      rw [List.getElem?_append_left (by rw [List.length_map, i.length]; exact hl), List.getElem?_map, e1]; rfl
  · rw [List.getElem?_append_right (by rw [List.length_map]; omega), List.getElem?_replicate] at e
    split at e <;> cases e
theorem envWf_start {ds : List D} {n m : Nat} (l : mrL ds ≤ n) : EnvWf (ds.map some ++ List.replicate m none) n := fun j d e => by
  by_cases hl : j < ds.length
  · rw [List.getElem?_append_left (by rw [List.length_map]; exact hl), List.getElem?_map] at e
    cases q : ds[j]? with
    | none => rw [q] at e; cases e
    | some d' =>
      rw [q] at e
      have : d' = d := by simpa using e
      subst this
      have := mrL_get q
      omega
  · rw [List.getElem?_append_right (by rw [List.length_map]; omega), List.getElem?_replicate] at e
    split at e <;> cases e
/-- THE RULE for a def of the text -/
theorem def_ok {P : Program} {w : World} {K : PySem.W.Frag} {mg : Str → Option Value} {base : Heap} {T : Tab} {k n : Nat} {x qual : Str} {params : Arguments} {body : List Stmt} {scope : Scope} {f : Addr} {fd : FuncData} {N ps : List Str} {dvs : List V} {kws : List (Str × V)}
    (F : FunD K x qual params body scope dvs kws f fd) (S : FnScope N ps scope) (tab : TabOk P w K mg base T k) : FnOk P w K mg base (L2.CX P w) (k + 1) f fd ps (spD ⟨K, none⟩ ps.length (runF (cSs n (defSC N scope T k) body) ps.length N.length)) := by
  refine F.ok S (fun vs H Q E h => h.1) (fun cdv A outer s H vs Q E hr h => ?_)
  obtain ⟨hlen, ρ, ds, h, at_, ra, p⟩ := h
  have hds : ds.length = ps.length := by rw [← ra.1.length]; exact hlen
  have cok : CxOk (defSC N scope T k) (cxOf (L2.CX P w) P w K mg base N qual scope f cdv A outer s H E) ⟨fun cls d _ H => E cls d H, none⟩ :=
    { hN := rfl, nd := S.nd, sc := rfl, calm := fun _ => ⟨rfl, rfl, rfl, hr⟩, tk := takes_of rfl rfl rfl rfl, po := passes_of rfl, top := fun _ => ⟨rfl, rfl⟩, fn := fun _ _ => rfl, tab := tab, units := by have := hr.un; show (A.deeper _).units + 65 < cLine; omega, kind := S.kind,
      hx := (fun i c h => nomatch h), hx0 := fun _ => rfl }
  refine ⟨_, (s_st n).2 _ _ _ cok body, ?_⟩
  refine ⟨ρ, ds.map some ++ List.replicate (N.length - ps.length) none, h, ⟨?_, at_.heap, at_.wf, envWf_start ra.2⟩, ?_⟩
  · show EnvIs _ ρ H _ (vs.map some ++ List.replicate (N.length - vs.length) none)
    rw [hlen]
    exact isL_get_some ra.1 _ trivial
  · unfold runF at p
    rw [if_pos hds] at p
    cases e : cSs n (defSC N scope T k) body (ds.map some ++ List.replicate (N.length - ps.length) none) h with
    | stuck => rw [e] at p; exact p.elim
    | brk _ _ => rw [e] at p; exact p.elim
    | cnt _ _ => rw [e] at p; exact p.elim
    | nxt e1 h1 =>
      rw [e] at p
      intro ρ1 σ1 H1 x1 _ _
      have l := x1.le
      have wf := x1.wf.le
      rw [at_.heap.len] at l
      exact p _ _ H1 (x1.cut (n := max h.cs.length (max h1.lim (D.non).mr)) (by rw [at_.heap.len]; omega) (by omega)) is_non
    | ret d h1 =>
      rw [e] at p
      intro ρ1 v1 H1 x1 r1
      have l := x1.le
      have wf := x1.wf.le
      have r2 := r1.2
      rw [at_.heap.len] at l
      refine p _ _ H1 (x1.cut (n := max h.cs.length (max h1.lim d.mr)) (by rw [at_.heap.len]; omega) (by omega)) ⟨Is.cut (by omega) r1.1, ?_⟩
      show d.mr ≤ (h1.cs.take _).length
      rw [List.length_take]; omega
    | exc c e1 h1 =>
      rw [e] at p
      intro ρ1 σ1 H1 x1 _ _
      exact p _ H1 (x1.cut (n := max h.cs.length h1.lim) (by rw [at_.heap.len]; omega) (by omega))
end
end Dy

/-! What the top left, read by one look; the table of a law. -/
namespace Dy
open PySem PySem.Spec PyProof.Rows L2
/-! ### constants of the module, nested -/
mutual
def relD (K : PySem.W.Frag) : D → Value → Bool
  | .non, .none => true
  | .bl b, .bool c => b == c
  | .int i, .int j _ => decide (i = j)
  | .str x, .str y _ => decide (x = y)
  | .tup ds, .ref a => (match K.lookup a with
    | some ⟨.type c, _, .seq its _, _⟩ => decide (c = "tuple") && (decide (its.size ≤ sizeLine) && relDs K ds its.toList)
    | _ => false)
  | .frl ds, .ref a => (match K.lookup a with
    | some ⟨.type c, none, .seq its _, _⟩ => decide (c = "list") && (decide (its.size ≤ sizeLine) && relDs K ds its.toList)
    | _ => false)
  | _, _ => false
def relDs (K : PySem.W.Frag) : List D → List Value → Bool
  | [], [] => true
  | d :: ds, u :: us => relD K d u && relDs K ds us
  | _, _ => false
end
def ConV (K : PySem.W.Frag) (d : D) (u : Value) (v : V) : Prop := RelV v u ∧ (∀ hx ρ H, Is ⟨K, hx⟩ ρ H d v) ∧ d.mr = 0
def ConL (K : PySem.W.Frag) (ds : List D) (us : List Value) (vs : List V) : Prop := Vals vs us ∧ (∀ hx ρ H, IsL ⟨K, hx⟩ ρ H ds vs) ∧ mrL ds = 0
mutual
theorem relD_ok {K : PySem.W.Frag} : ∀ (d : D) (u : Value), relD K d u = true → ∃ v, ConV K d u v
  | .non, u, h => by
    cases u with
    | none => exact ⟨.non, rfl, fun hx ρ H => by unfold Is; rfl, rfl⟩
    | _ => simp [relD] at h
  | .bl b, u, h => by
    cases u with
    | bool c =>
      have e : b = c := by unfold relD at h; exact eq_of_beq h
      exact ⟨.bl b, by rw [e]; rfl, fun hx ρ H => by unfold Is; rfl, rfl⟩
    | _ => simp [relD] at h
  | .int i, u, h => by
    cases u with
    | int j t =>
      have e : i = j := by unfold relD at h; exact of_decide_eq_true h
      exact ⟨.int i, ⟨t, by rw [e]⟩, fun hx ρ H => by unfold Is; rfl, rfl⟩
    | _ => simp [relD] at h
  | .str x, u, h => by
    cases u with
    | str y t =>
      have e : x = y := by unfold relD at h; exact of_decide_eq_true h
      exact ⟨.str x, ⟨t, by rw [e]⟩, fun hx ρ H => by unfold Is; rfl, rfl⟩
    | _ => simp [relD] at h
  | .tup ds, u, h => by
    cases u with
    | ref a =>
      unfold relD at h
      split at h
      · rename_i c od its n sl q
        obtain ⟨h1, h2⟩ := He.ba h
        obtain ⟨h3, h4⟩ := He.ba h2
        obtain ⟨vs, r, i, m⟩ := relDs_ok ds _ h4
        refine ⟨.ref a, rfl, fun hx ρ H => ?_, m⟩
        unfold Is
        exact ⟨a, vs, rfl, .inr ⟨_, its, n, q, congrArg Value.type (of_decide_eq_true h1), rfl, of_decide_eq_true h3, r⟩, i hx ρ H⟩
      · cases h
    | _ => simp [relD] at h
  | .frl ds, u, h => by
    cases u with
    | ref a =>
      unfold relD at h
      split at h
      · rename_i c its n sl q
        obtain ⟨h1, h2⟩ := He.ba h
        obtain ⟨h3, h4⟩ := He.ba h2
        obtain ⟨vs, r, i, m⟩ := relDs_ok ds _ h4
        refine ⟨.ref a, rfl, fun hx ρ H => ?_, m⟩
        unfold Is
        exact ⟨a, vs, rfl, .inr ⟨_, its, n, q, congrArg Value.type (of_decide_eq_true h1), rfl, rfl, of_decide_eq_true h3, r⟩, i hx ρ H⟩
      · cases h
    | _ => simp [relD] at h
  | .ref n, u, h => by simp [relD] at h
  | .ty n, u, h => by simp [relD] at h
  | .glb n, u, h => by simp [relD] at h
theorem relDs_ok {K : PySem.W.Frag} : ∀ (ds : List D) (us : List Value), relDs K ds us = true → ∃ vs, ConL K ds us vs
  | [], us, h => by
    cases us with
    | nil => exact ⟨[], .nil, fun hx ρ H => by unfold IsL; rfl, rfl⟩
    | cons _ _ => simp [relDs] at h
  | d :: ds, us, h => by
    cases us with
    | nil => simp [relDs] at h
    | cons u us =>
      unfold relDs at h
      obtain ⟨h1, h2⟩ := He.ba h
      obtain ⟨v, r, i, m⟩ := relD_ok d u h1
      obtain ⟨vs, rs, is, ms⟩ := relDs_ok ds us h2
      refine ⟨v :: vs, .cons r rs, fun hx ρ H => ?_, by unfold mrL; omega⟩
      unfold IsL
      exact ⟨v, vs, rfl, i hx ρ H, is hx ρ H⟩
end
/-! ### one look -/
structure Tb where
  con : List (Str × D) := []
  free : List Str := []
  exc : List Str := []
  sub : List ((Str × Str) × Bool) := []
  gcd : List Str := []
  subT : List ((Str × Str) × Bool) := []
def excCB (K : PySem.W.Frag) (A : Addr) : Bool := He.eqO (PySem.W.findIn K (.ref A) "__getattribute__") (some (some (.builtin "BaseException.__getattribute__"))) && (He.eqO (PySem.W.findIn K (.ref A) "__getattr__") (some none) && (decide (PySem.W.subIn K (.ref A) (.type "BaseException") = some true) && (PySem.W.hasDictIn K A &&
  (He.eqO (PySem.W.findIn K (.ref A) "__class__") (some (some (.builtin "object.__class__"))) && (He.eqO (PySem.W.specialIn K (.builtin "object.__class__") "__get__") (some (some (.builtin "getset_descriptor.__get__"))) && (decide (PySem.W.takesIn K (.builtin "object.__class__") = some true) && decide (PySem.W.mroIn K A (.type "object") = some true)))))))
theorem excCB_ok {K : PySem.W.Frag} {A : Addr} (h : excCB K A = true) : ExcC K A := by
  obtain ⟨h1, h⟩ := He.ba h
  obtain ⟨h2, h⟩ := He.ba h
  obtain ⟨h3, h⟩ := He.ba h
  obtain ⟨h4, h⟩ := He.ba h
  obtain ⟨h5, h⟩ := He.ba h
  obtain ⟨h6, h⟩ := He.ba h
  obtain ⟨h7, h8⟩ := He.ba h
  exact ⟨He.eqO_ok h1, He.eqO_ok h2, of_decide_eq_true h3, h4, He.eqO_ok h5, He.eqO_ok h6, of_decide_eq_true h7, of_decide_eq_true h8⟩
def conB (K : PySem.W.Frag) (x : Str) (d : D) : Bool := match PySem.W.nsIn K mainGlobals x with
  | some (some u) => relD K d u
  | _ => false
def subB (K : PySem.W.Frag) (c x : Str) (b : Bool) : Bool := (He.Fa.glo x).ok K && (decide (PySem.W.exmOne K (.ref (He.ga K c)) (.ref (He.ga K x)) = some b) && (decide (PySem.W.kitOne K (.ref (He.ga K c)) (.ref (He.ga K x)) = some b) && excCB K (He.ga K c)))
def subTB (K : PySem.W.Frag) (c x : Str) (b : Bool) : Bool := (He.Fa.free x).ok K && (decide (x = "ValueError") && (decide (PySem.W.kitOne K (.ref (He.ga K c)) (.type "ValueError") = some b) && excCB K (He.ga K c)))
def Tb.ok (t : Tb) (glo : List Str) (K : PySem.W.Frag) : Bool := (t.gcd.all fun x => He.eqO (PySem.W.nsIn K mainGlobals x) (some (some (.builtin "math.gcd")))) && ((t.subT.all fun p => subTB K p.1.1 p.1.2 p.2) && ((t.con.all fun p => conB K p.1 p.2) && ((t.free.all fun x => (He.Fa.free x).ok K) && ((t.exc.all fun x => (He.Fa.glo x).ok K && (He.Fa.exc x).ok K) && ((t.sub.all fun p => subB K p.1.1 p.1.2 p.2) && glo.all fun x => (He.Fa.glo x).ok K)))))
structure TbOk (K : PySem.W.Frag) (mg : Str → Option Value) (t : Tb) (glo : List Str) : Prop where
  con : ∀ p ∈ t.con, ∃ u v, mg p.1 = some u ∧ ConV K p.2 u v
  free : ∀ x ∈ t.free, mg x = none
  exc : ∀ x ∈ t.exc, mg x = some (.ref (He.ga K x)) ∧ (He.Fa.exc x).ok K = true
  sub : ∀ p ∈ t.sub, mg p.1.2 = some (.ref (He.ga K p.1.2)) ∧ PySem.W.exmOne K (.ref (He.ga K p.1.1)) (.ref (He.ga K p.1.2)) = some p.2 ∧ PySem.W.kitOne K (.ref (He.ga K p.1.1)) (.ref (He.ga K p.1.2)) = some p.2 ∧ ExcC K (He.ga K p.1.1)
  glo : ∀ x ∈ glo, mg x = some (.ref (He.ga K x))
  gcd : ∀ x ∈ t.gcd, mg x = some (.builtin "math.gcd")
  subT : ∀ p ∈ t.subT, mg p.1.2 = none ∧ p.1.2 = "ValueError" ∧ PySem.W.kitOne K (.ref (He.ga K p.1.1)) (.type "ValueError") = some p.2 ∧ ExcC K (He.ga K p.1.1)
theorem Tb.ok_is {t : Tb} {gl : List Str} {K : PySem.W.Frag} {h : Heap} {mg : Str → Option Value} (X : K.In h) (G : h.Ns mainGlobals mg) (e : t.ok gl K = true) : TbOk K mg t gl := by
  obtain ⟨h6, e⟩ := He.ba e
  obtain ⟨h7, e⟩ := He.ba e
  obtain ⟨h1, e⟩ := He.ba e
  obtain ⟨h2, e⟩ := He.ba e
  obtain ⟨h3, e⟩ := He.ba e
  obtain ⟨h4, h5⟩ := He.ba e
  refine ⟨fun p hp => ?_, fun x hx => He.free_ok X G (List.all_eq_true.mp h2 x hx), fun x hx => ?_, fun p hp => ?_, fun x hx => He.glo_ok X G (List.all_eq_true.mp h5 x hx), fun x hx => PySem.W.mg_of X G (He.eqO_ok (List.all_eq_true.mp h6 x hx)), fun p hp => ?_⟩
  · have z := List.all_eq_true.mp h1 p hp
    unfold conB at z
    split at z
    · rename_i u q
      obtain ⟨v, c⟩ := relD_ok _ _ z
      exact ⟨u, v, PySem.W.mg_of X G q, c⟩
    · cases z
  · obtain ⟨z1, z2⟩ := He.ba (List.all_eq_true.mp h3 x hx)
    exact ⟨He.glo_ok X G z1, z2⟩
  · obtain ⟨z1, z⟩ := He.ba (List.all_eq_true.mp h4 p hp)
    obtain ⟨z2, z⟩ := He.ba z
    obtain ⟨z3, z4⟩ := He.ba z
    exact ⟨He.glo_ok X G z1, of_decide_eq_true z2, of_decide_eq_true z3, excCB_ok z4⟩
  · obtain ⟨z1, z⟩ := He.ba (List.all_eq_true.mp h7 p hp)
    obtain ⟨z2, z⟩ := He.ba z
    obtain ⟨z3, z4⟩ := He.ba z
    exact ⟨He.free_ok X G z1, of_decide_eq_true z2, of_decide_eq_true z3, excCB_ok z4⟩
def subLook (c x : Str) : List ((Str × Str) × Bool) → Option Bool
  | [] => none
  | p :: r => if p.1.1 = c ∧ p.1.2 = x then some p.2 else subLook c x r
theorem subLook_mem {c x : Str} {b : Bool} : ∀ {l}, subLook c x l = some b → ((c, x), b) ∈ l
  | [], h => by cases h
  | p :: r, h => by
    unfold subLook at h
    split at h
    · rename_i e
      obtain ⟨⟨p1, p2⟩, p3⟩ := p
      obtain ⟨rfl, rfl⟩ := e
      cases h
      exact List.mem_cons_self
    · exact List.mem_cons_of_mem _ (subLook_mem h)
/-- the table of a def: what the top holds, the defs that it calls -/
def Tb.tab (t : Tb) (fs : List (Str × (Nat × Fn))) : Tab := ⟨fun x => fs.lookup x, fun x => t.con.lookup x, fun x => t.free.contains x, fun x => t.exc.contains x, fun c x => subLook c x t.sub, fun x => t.gcd.contains x, fun c x => subLook c x t.subT⟩
/-- a called def -/
def Cal (P : Program) (w : World) (K : PySem.W.Frag) (mg : Str → Option Value) (base : Heap) (k : Nat) (x : Str) (n : Nat) (f : Fn) : Prop :=
  ∃ a fd ps, mg x = some (.ref a) ∧ PySem.W.keepIn K (.ref a) = true ∧ Binds K fd ps [] ∧ FnOk P w K mg base (L2.CX P w) k a fd ps (spD ⟨K, none⟩ n f)
def Cals (P : Program) (w : World) (K : PySem.W.Frag) (mg : Str → Option Value) (base : Heap) (k : Nat) (fs : List (Str × (Nat × Fn))) : Prop := ∀ p ∈ fs, Cal P w K mg base k p.1 p.2.1 p.2.2
theorem Cals.nil {P w K mg base k} : Cals P w K mg base k [] := fun p h => by cases h
theorem Cals.cons {P w K mg base k x n f fs} (h : Cal P w K mg base k x n f) (r : Cals P w K mg base k fs) : Cals P w K mg base k ((x, n, f) :: fs) := fun p hp => by
  rcases List.mem_cons.mp hp with e | e
  · subst e; exact h
  · exact r p e
theorem tab_ok {P : Program} {w : World} {K : PySem.W.Frag} {mg : Str → Option Value} {base : Heap} {k : Nat} {t : Tb} {gl : List Str} {fs : List (Str × (Nat × Fn))} (T : TbOk K mg t gl) (C : Cals P w K mg base k fs) : TabOk P w K mg base (t.tab fs) k where
  fn := fun x n f h => C _ (lookup_mem (l := fs) h)
  con := fun x d h => by
    obtain ⟨u, v, h1, h2, h3, h4⟩ := T.con _ (lookup_mem (l := t.con) h)
    exact ⟨u, v, h1, h2, h3, h4⟩
  free := fun x h => T.free x (by simpa [Tb.tab] using h)
  exc := fun x h => T.exc x (by simpa [Tb.tab] using h)
  sub := fun c x b h => T.sub _ (subLook_mem h)
  gcd := fun x h => T.gcd x (by simpa [Tb.tab] using h)
  subT := fun c x b h => T.subT _ (subLook_mem h)
/-! ### the Hook -/
def obsX (t : Tb) (gl : List Str) (fn : List He.DefD) (K : PySem.W.Frag) : He.AlD := (t.ok gl K && fn.all fun d => d.ok K, fn.map fun d => He.fnW K d.at_)
def valX (fn : List He.DefD) : He.AlD := (true, fn.map He.DefD.val)
def SaysX (t : Tb) (gl : List Str) (fn : List He.DefD) (K : PySem.W.Frag) : Prop := obsX t gl fn K = valX fn
def obsXG (n : Nat) (t : Tb) (gl : List Str) (fn : List He.DefD) (g : Addr → Option Obj) : He.AlD := obsX t gl fn (He.frG g (He.asD g n))
def hookX (n : Nat) (t : Tb) (gl : List Str) (fn : List He.DefD) : PySem.W.Hook where
  α := He.AlD
  obs := fun s => obsXG n t gl fn s.heap.get?
  val := fun _ => valX fn
  says := fun _ h => ∃ K : PySem.W.Frag, K.In h ∧ SaysX t gl fn K
  of := fun _ _ e => ⟨_, He.frG_in, e⟩
  keeps := fun _ _ _ ⟨K, hK, c⟩ k => ⟨K, PySem.W.Frag.In.keeps hK k, c⟩
def obX (n : Nat) (t : Tb) (gl : List Str) (fn : List He.DefD) (s : PySem.W.SharedT) : He.AlD := obsXG n t gl fn (HandSHeadRun.getT s)
theorem obX_eq {n : Nat} {t : Tb} {gl : List Str} {fn : List He.DefD} (s : PySem.W.SharedT) : obX n t gl fn s = (hookX n t gl fn).obs s.abs := by
  have e : HandSHeadRun.getT s = s.abs.heap.get? := funext fun a => HandSHeadRun.getT_eq s a
  unfold obX
  rw [e] <;> rfl
section
variable {t : Tb} {gl : List Str} {fn : List He.DefD} {K : PySem.W.Frag}
theorem SaysX.tb (c : SaysX t gl fn K) : t.ok gl K = true := (He.ba (show (t.ok gl K && fn.all fun d => d.ok K) = true from congrArg (fun z : He.AlD => z.1) c)).1
theorem SaysX.def_ (c : SaysX t gl fn K) (i : Nat) {d : He.DefD} (h : fn[i]? = some d := by rfl) : ∃ fd, FunD K d.name d.qual d.params d.body d.scope (d.dvs K) (d.kws K) (He.fAd K d.at_) fd := by
  have c2 := (He.ba (show (t.ok gl K && fn.all fun d => d.ok K) = true from congrArg (fun z : He.AlD => z.1) c)).2
  have e : fn.map (fun d => He.fnW K d.at_) = fn.map He.DefD.val := congrArg (fun z : He.AlD => z.2) c
  have e2 : (fn.map fun d => He.fnW K d.at_)[i]? = (fn.map He.DefD.val)[i]? := by rw [e]
  rw [List.getElem?_map, List.getElem?_map, h] at e2
  exact He.DefD.funD (Option.some.inj e2) (List.all_eq_true.mp c2 d (List.mem_of_getElem? h))
end
/-- a def of the top, of no defaults -/
def dD (x : Str) (st : Stmt) : He.DefD := ⟨(x, none), x, x, defArgs st, defBody st, defScope st, [], []⟩
/-- a def stands at its name and keeps its promise -/
theorem cal_of {P : Program} {w : World} {K : PySem.W.Frag} {mg : Str → Option Value} {base : Heap} {t : Tb} {gl : List Str} {fn : List He.DefD} {fs : List (Str × (Nat × Fn))} {k n : Nat} {x : Str} {st : Stmt} {N ps : List Str} (c : SaysX t gl fn K) (T : TbOk K mg t gl) (i : Nat)
    (h : fn[i]? = some (dD x st)) (hg : x ∈ gl) (S : FnScope N ps (defScope st)) (hb : ∀ fd, FunD K x x (defArgs st) (defBody st) (defScope st) [] [] (He.ga K x) fd → Binds K fd ps []) (C : Cals P w K mg base k fs) (f : Fn)
    (hf : runF (cSs n (defSC N (defScope st) (t.tab fs) k) (defBody st)) ps.length N.length = f) : Cal P w K mg base (k + 1) x ps.length f := by
  obtain ⟨fd, F⟩ := c.def_ i h
  have F' : FunD K x x (defArgs st) (defBody st) (defScope st) [] [] (He.ga K x) fd := F
  refine ⟨_, fd, ps, T.glo x hg, F.kp, hb fd F', ?_⟩
  rw [← hf]
  exact def_ok F' S (tab_ok T C)
/-- a def that calls itself, at the end of its levels -/
def noneF : Fn := fun _ _ => .stuck
theorem cal_none {P : Program} {w : World} {K : PySem.W.Frag} {mg : Str → Option Value} {base : Heap} {t : Tb} {gl : List Str} {fn : List He.DefD} {k : Nat} {x : Str} {st : Stmt} {ps : List Str} (c : SaysX t gl fn K) (T : TbOk K mg t gl) (i : Nat)
    (h : fn[i]? = some (dD x st)) (hg : x ∈ gl) (hb : ∀ fd, FunD K x x (defArgs st) (defBody st) (defScope st) [] [] (He.ga K x) fd → Binds K fd ps []) : Cal P w K mg base k x ps.length noneF := by
  obtain ⟨fd, F⟩ := c.def_ i h
  have F' : FunD K x x (defArgs st) (defBody st) (defScope st) [] [] (He.ga K x) fd := F
  exact ⟨_, fd, ps, T.glo x hg, F.kp, hb fd F', ⟨fun vs H Q E h => h.1, fun A outer s H args us vs Q E _ _ _ _ ⟨_, _, _, _, _, _, p⟩ => p.elim⟩⟩
theorem Cal.mono {P : Program} {w : World} {K : PySem.W.Frag} {mg : Str → Option Value} {base : Heap} {j k n : Nat} {x : Str} {f : Fn} (c : Cal P w K mg base j x n f) (h : j ≤ k) : Cal P w K mg base k x n f := by
  obtain ⟨a, fd, ps, h1, h2, h3, h4⟩ := c
  exact ⟨a, fd, ps, h1, h2, h3, h4.mono h⟩
/-- the law's def -/
structure LawOk (P : Program) (w : World) (K : PySem.W.Frag) (mg : Str → Option Value) (k : Nat) (f : Fn) : Prop where
  at_ : mg "law" = some (.ref (He.ga K "law"))
  ok : ∃ fd : FuncData, (∀ (s : Shared) (v : Value), BindsTo s fd ⟨[v], []⟩ [("script", v)]) ∧ ∀ base : Heap, K.In base → base.Ns mainGlobals mg → FnOk P w K mg base (L2.CX P w) k (He.ga K "law") fd ["script"] (spD ⟨K, none⟩ 1 f)
theorem law_of {P : Program} {w : World} {K : PySem.W.Frag} {mg : Str → Option Value} {t : Tb} {gl : List Str} {fn : List He.DefD} {fs : List (Str × (Nat × Fn))} {k : Nat} {st : Stmt} {N : List Str} (c : SaysX t gl fn K) (T : TbOk K mg t gl) (i : Nat)
    (h : fn[i]? = some (dD "law" st)) (hg : ("law" : Str) ∈ gl) (S : FnScope N ["script"] (defScope st)) (hb : ∀ fd, FunD K "law" "law" (defArgs st) (defBody st) (defScope st) [] [] (He.ga K "law") fd → ∀ (s : Shared) (us : List Value), us.length = 1 → BindsTo s fd ⟨us, []⟩ ((["script"] : List Str).zip us))
    (C : ∀ base : Heap, Cals P w K mg base k fs) (f : Fn) (hf : runF (cSs 400 (defSC N (defScope st) (t.tab fs) k) (defBody st)) 1 N.length = f) : LawOk P w K mg (k + 1) f := by
  obtain ⟨fd, F⟩ := c.def_ i h
  have F' : FunD K "law" "law" (defArgs st) (defBody st) (defScope st) [] [] (He.ga K "law") fd := F
  refine ⟨T.glo _ hg, fd, fun s v => hb fd F' s [v] rfl, fun base _ _ => ?_⟩
  rw [← hf]
  exact def_ok F' S (tab_ok T (C base))
theorem start_at {K : PySem.W.Frag} {H : Hp} {a : Addr} {ns : List Int} (hO : Only H) (hS : SqL K H a (ns.map V.int)) : FrzL K H a (ns.map V.int) := by
  rcases hS with (h | h) | h
  · rcases hO a with e | ⟨o, xs, e⟩
    · rw [h] at e; cases e
    · rw [h] at e; cases e
  · exact .inl h
  · exact .inr h
theorem law_end {l : PySem.W.OpenLaw} {k n : Nat} {q : Program} {loose : List Str} {XP : (Str → Option Value) → Heap → Prop} {d : DefRec} {t : Tb} {gl : List Str} {fn : List He.DefD} {f : Fn} (hn : l.most = some 63) (hdf : d.params.defaults = []) (hr : Room k callerA) (hd : d.name = "law")
    (F : ∀ (w : World) (K : PySem.W.Frag) (mg : Str → Option Value), SaysX t gl fn K → TbOk K mg t gl → LawOk l.prog w K mg k f)
    (pure : ∀ s : List Int, s.length ≤ 63 → ∃ h, f [.frl (s.map .int)] ⟨[], 0⟩ = .ok (.bl true) h) : PySem.W.WalkO q loose XP (hookX n t gl fn).says l.row.toRowW d [] (fun f vs => PySem.call f vs) := by
  refine Att.attach_call hn hdf fun w s0 s1 mg mb fa o pm cd doc a vs ns G Y ho hod hcd hmg hobj hints hlen hg => ?_
  obtain ⟨K, KX, c⟩ := Y
  have T : TbOk K mg t gl := Tb.ok_is KX G.T.g c.tb
  obtain ⟨e1, fd, hb, hF⟩ := F w K mg c T
  have e2 : fa = He.ga K "law" := by
    rw [hd, e1] at hmg
    cases hmg; rfl
  rw [← e2] at hF
  refine law_call (x := "script") KX G.T.g G.T.b G.T.builtins G.T.nolimit hg hobj hints (Nat.le_trans hlen (by decide)) hr (fun base h1 h2 => hF base h1 h2) hb (fun H hO hS => ?_) fun H e s' z => ?_
  · obtain ⟨h', p⟩ := pure ns hlen
    refine ⟨rfl, [], [.frl (ns.map .int)], ⟨[], 0⟩, ⟨⟨rfl, List.nodup_nil, fun n c a h => by cases h⟩, ⟨Nat.le_refl _, fun n c h => by cases h⟩⟩, ⟨?_, ?_⟩, ?_⟩
    · unfold IsL
      refine ⟨_, _, rfl, ?_, by unfold IsL; rfl⟩
      unfold Is
      exact ⟨a, _, rfl, start_at hO hS, isL_ints ns⟩
    · show max (mrL (ns.map D.int)) 0 ≤ 0
      rw [mrL_ints]; exact Nat.le_refl _
    · rw [p]
      intro ρ' v H' _ r
      exact r.1.bl
  · obtain ⟨_, _, _, _, _, z⟩ := z
    exact z.2.2.2.2.2.2.2
end Dy

/-! Reckoning with the combinators: what they give, step by step. -/
namespace Dy
open PySem PySem.Spec PyProof.Rows L2
/-! ### results, taken on -/
section
variable {α β : Type} {e e1 : Env} {h h1 : PH} {a b u : SM} {c : Str} {d x y : D} {ds : List D} {s : Str} {n i j : Nat}
def Out.seq (o : Out) (b : SM) : Out := match o with
  | .nxt e1 h1 => b e1 h1
  | .ret d h1 => .ret d h1
  | .brk e1 h1 => .brk e1 h1
  | .cnt e1 h1 => .cnt e1 h1
  | .exc c e1 h1 => .exc c e1 h1
  | .stuck => .stuck
@[simp] theorem seqS_ap : seqS a b e h = (a e h).seq b := rfl
theorem Out.seq_cg {o o' : Out} (q : o = o') : o.seq b = o'.seq b := by rw [q]
@[simp] theorem seq_nxt : (Out.nxt e h).seq b = b e h := rfl
@[simp] theorem seq_ret : (Out.ret d h).seq b = .ret d h := rfl
@[simp] theorem seq_brk : (Out.brk e h).seq b = .brk e h := rfl
@[simp] theorem seq_cnt : (Out.cnt e h).seq b = .cnt e h := rfl
@[simp] theorem seq_exc : (Out.exc c e h).seq b = .exc c e h := rfl
theorem Res.bind_cg {r r' : Res α} {f : α → PH → Res β} (q : r = r') : r.bind f = r'.bind f := by rw [q]
theorem Res.bindS_cg {r r' : Res α} {f : α → PH → Out} (q : r = r') : r.bindS e f = r'.bindS e f := by rw [q]
@[simp] theorem bind_ok {v : α} {f : α → PH → Res β} : (Res.ok v h).bind f = f v h := rfl
@[simp] theorem bind_exc {f : α → PH → Res β} : (Res.exc c h).bind f = .exc c h := rfl
theorem bindS_ok {v : α} {f : α → PH → Out} : (Res.ok v h).bindS e f = f v h := rfl
theorem bindS_exc {f : α → PH → Out} : (Res.exc c h : Res α).bindS e f = .exc c e h := rfl
def Res.ifS (r : Res Bool) (e : Env) (a b : SM) : Out := r.bindS e fun c h1 => match c with
  | true => a e h1
  | false => b e h1
@[simp] theorem ifS_ap {t : TM} : ifS t a b e h = (t e h).ifS e a b := rfl
theorem Res.ifS_cg {r r' : Res Bool} (q : r = r') : r.ifS e a b = r'.ifS e a b := by rw [q]
@[simp] theorem ifS_true : (Res.ok true h).ifS e a b = a e h := rfl
@[simp] theorem ifS_false : (Res.ok false h).ifS e a b = b e h := rfl
@[simp] theorem ifS_exc : (Res.exc c h).ifS e a b = .exc c e h := rfl
/-- tests -/
def Res.orR (r : Res Bool) (e : Env) (u : TM) : Res Bool := r.bind fun b h1 => match b with
  | true => .ok true h1
  | false => u e h1
def Res.andR (r : Res Bool) (e : Env) (u : TM) : Res Bool := r.bind fun b h1 => match b with
  | true => u e h1
  | false => .ok false h1
@[simp] theorem orT_ap {t u : TM} : orT t u e h = (t e h).orR e u := rfl
@[simp] theorem andT_ap {t u : TM} : andT t u e h = (t e h).andR e u := rfl
theorem Res.orR_cg {r r' : Res Bool} {u : TM} (q : r = r') : r.orR e u = r'.orR e u := by rw [q]
theorem Res.andR_cg {r r' : Res Bool} {u : TM} (q : r = r') : r.andR e u = r'.andR e u := by rw [q]
def pick {α : Type} (b : Bool) (x y : Res α) : Res α := match b with
  | true => x
  | false => y
@[simp] theorem orR_ok {b : Bool} {u : TM} : (Res.ok b h).orR e u = pick b (.ok true h) (u e h) := by cases b <;> rfl
@[simp] theorem andR_ok {b : Bool} {u : TM} : (Res.ok b h).andR e u = pick b (u e h) (.ok false h) := by cases b <;> rfl
@[simp] theorem pick_true {x y : Res α} : pick true x y = x := rfl
@[simp] theorem pick_false {x y : Res α} : pick false x y = y := rfl
@[simp] theorem pick_or {b k : Bool} : pick b (.ok true h) (.ok k h) = .ok (b || k) h := by cases b <;> rfl
@[simp] theorem pick_and {b k : Bool} : pick b (.ok k h) (.ok false h) = .ok (b && k) h := by cases b <;> rfl
@[simp] theorem pick_int {b : Bool} {i j : Int} : pick b (.ok (D.int i) h) (.ok (D.int j) h) = .ok (D.int (bif b then i else j)) h := by cases b <;> rfl
@[simp] theorem pick_bl {b : Bool} {i j : Bool} : pick b (.ok (D.bl i) h) (.ok (D.bl j) h) = .ok (D.bl (bif b then i else j)) h := by cases b <;> rfl
@[simp] theorem pick_str {b : Bool} {i j : Str} : pick b (.ok (D.str i) h) (.ok (D.str j) h) = .ok (D.str (bif b then i else j)) h := by cases b <;> rfl
def Res.tb (r : Res D) : Res Bool := r.bind fun d h1 => match d with
  | .bl b => .ok b h1
  | _ => .stuck
@[simp] theorem tbT_ap {m : EM} : tbT m e h = (m e h).tb := rfl
@[simp] theorem tb_ok {b : Bool} : (Res.ok (.bl b) h).tb = .ok b h := rfl
def Res.tr (r : Res D) : Res Bool := r.bind fun d h1 => match truth d h1 with
  | some b => .ok b h1
  | none => .stuck
@[simp] theorem trT_ap {m : EM} : trT m e h = (m e h).tr := rfl
@[simp] theorem tr_bl {b : Bool} : (Res.ok (.bl b) h).tr = .ok b h := rfl
@[simp] theorem tr_int {b : Int} : (Res.ok (.int b) h).tr = .ok (b != 0) h := rfl
theorem notT_ap {t : TM} : notT t e h = (t e h).bind fun b h1 => .ok (!b) h1 := rfl
def Res.andD (r : Res D) (e : Env) (b : EM) : Res D := r.bind fun d h1 => match truth d h1 with
  | some true => b e h1
  | some false => .ok d h1
  | none => .stuck
def Res.orD (r : Res D) (e : Env) (b : EM) : Res D := r.bind fun d h1 => match truth d h1 with
  | some true => .ok d h1
  | some false => b e h1
  | none => .stuck
@[simp] theorem andE_ap {x y : EM} : andE x y e h = (x e h).andD e y := rfl
@[simp] theorem orE_ap {x y : EM} : orE x y e h = (x e h).orD e y := rfl
theorem Res.andD_cg {r r' : Res D} {y : EM} (q : r = r') : r.andD e y = r'.andD e y := by rw [q]
theorem Res.orD_cg {r r' : Res D} {y : EM} (q : r = r') : r.orD e y = r'.orD e y := by rw [q]
@[simp] theorem andD_bl {b : Bool} {y : EM} : (Res.ok (.bl b) h).andD e y = pick b (y e h) (.ok (.bl false) h) := by cases b <;> rfl
@[simp] theorem orD_bl {b : Bool} {y : EM} : (Res.ok (.bl b) h).orD e y = pick b (.ok (.bl true) h) (y e h) := by cases b <;> rfl
def Res.ifE (r : Res Bool) (e : Env) (a b : EM) : Res D := r.bind fun c h1 => match c with
  | true => a e h1
  | false => b e h1
@[simp] theorem ifE_ap {t : TM} {x y : EM} : ifE t x y e h = (t e h).ifE e x y := rfl
theorem Res.ifE_cg {r r' : Res Bool} {x y : EM} (q : r = r') : r.ifE e x y = r'.ifE e x y := by rw [q]
@[simp] theorem ifE_ok {b : Bool} {x y : EM} : (Res.ok b h).ifE e x y = pick b (x e h) (y e h) := by cases b <;> rfl
/-! ### expressions -/
@[simp] theorem cE_ap : cE d e h = .ok d h := rfl
theorem vE_0 {o : Option D} {r : Env} : vE 0 (o :: r) h = (match o with | some d => .ok d h | none => .stuck) := by cases o <;> rfl
theorem vE_at (q : e[i]? = some (some d)) : vE i e h = .ok d h := by unfold vE; rw [q]
@[simp] theorem u1E_ap {f : D → PH → Res D} {x : EM} : u1E f x e h = (x e h).bind f := rfl
theorem b2E_ap {f : D → D → PH → Res D} {x y : EM} : b2E f x y e h = (x e h).bind fun v h1 => (y e h1).bind fun w h2 => f v w h2 := rfl
@[simp] theorem nA_ap {f : List D → PH → Res D} {x : AM} : nA f x e h = (x e h).bind f := rfl
@[simp] theorem nilA_ap : nilA e h = .ok [] h := rfl
theorem consA_ap {x : EM} {y : AM} : consA x y e h = (x e h).bind fun v h1 => (y e h1).bind fun w h2 => .ok (v :: w) h2 := rfl
def Res.b2 (r : Res D) (f : D → D → PH → Res D) (y : EM) (e : Env) : Res D := r.bind fun v h1 => (y e h1).bind (f v)
@[simp] theorem b2E_fr {f : D → D → PH → Res D} {x y : EM} : b2E f x y e h = (x e h).b2 f y e := rfl
@[simp] theorem b2_ok {f : D → D → PH → Res D} {y : EM} : (Res.ok d h).b2 f y e = (y e h).bind (f d) := rfl
@[simp] theorem b2_exc {f : D → D → PH → Res D} {y : EM} : (Res.exc c h).b2 f y e = .exc c h := rfl
def Res.c1 (r : Res D) (y : AM) (e : Env) : Res (List D) := r.bind fun v h1 => (y e h1).bind fun w h2 => .ok (v :: w) h2
def Res.c2 (r : Res (List D)) (v : D) : Res (List D) := r.bind fun w h2 => .ok (v :: w) h2
@[simp] theorem consA_fr {x : EM} {y : AM} : consA x y e h = (x e h).c1 y e := rfl
@[simp] theorem c1_ok {y : AM} : (Res.ok d h).c1 y e = (y e h).c2 d := rfl
@[simp] theorem c1_exc {y : AM} : (Res.exc c h).c1 y e = .exc c h := rfl
@[simp] theorem c2_ok : (Res.ok ds h).c2 d = .ok (d :: ds) h := rfl
@[simp] theorem c2_exc : (Res.exc c h).c2 d = .exc c h := rfl
@[simp] theorem tupF_ap (q : ds.length ≤ 16777216) : tupF ds h = .ok (.tup ds) h := by
  unfold tupF
  rw [if_pos q]
@[simp] theorem f1_ap {f : D → PH → Res D} : f1 f [d] h = f d h := rfl
@[simp] theorem f2_ap {f : D → D → PH → Res D} : f2 f [x, y] h = f x y h := rfl
def Res.ch (r : Res D) (g : D → D → PH → Res D) (y : D) (e : Env) (c : EM) : Res D := r.bind fun z h3 => match z with
  | .bl true => (c e h3).bind fun w h4 => g y w h4
  | .bl false => .ok (.bl false) h3
  | _ => .stuck
theorem chE_ap {f g : D → D → PH → Res D} {k l m : EM} : chE f g k l m e h = (k e h).bind fun v h1 => (l e h1).bind fun w h2 => (f v w h2).ch g w e m := rfl
theorem Res.ch_cg {r r' : Res D} {g : D → D → PH → Res D} {m : EM} (q : r = r') : r.ch g y e m = r'.ch g y e m := by rw [q]
def Res.ch1 (r : Res D) (f g : D → D → PH → Res D) (l m : EM) (e : Env) : Res D := r.bind fun v h1 => (l e h1).bind fun w h2 => (f v w h2).ch g w e m
def Res.ch2 (r : Res D) (f g : D → D → PH → Res D) (v : D) (m : EM) (e : Env) : Res D := r.bind fun w h2 => (f v w h2).ch g w e m
@[simp] theorem chE_fr {f g : D → D → PH → Res D} {k l m : EM} : chE f g k l m e h = (k e h).ch1 f g l m e := rfl
@[simp] theorem ch1_ok {f g : D → D → PH → Res D} {l m : EM} : (Res.ok d h).ch1 f g l m e = (l e h).ch2 f g d m e := rfl
@[simp] theorem ch2_ok {f g : D → D → PH → Res D} {m : EM} : (Res.ok y h).ch2 f g d m e = (f d y h).ch g y e m := rfl
@[simp] theorem ch_bl {b : Bool} {g : D → D → PH → Res D} {m : EM} : (Res.ok (.bl b) h).ch g y e m = pick b ((m e h).bind (g y)) (.ok (.bl false) h) := by cases b <;> rfl
/-! ### numbers -/
variable {k l : Int}
@[simp] theorem addF_int : addF (.int k) (.int l) h = .ok (.int (k + l)) h := rfl
@[simp] theorem subF_int : subF (.int k) (.int l) h = .ok (.int (k - l)) h := rfl
@[simp] theorem negF_int : negF (.int k) h = .ok (.int (-k)) h := rfl
@[simp] theorem ltF_int : ltF (.int k) (.int l) h = .ok (.bl (decide (k < l))) h := rfl
@[simp] theorem leF_int : leF (.int k) (.int l) h = .ok (.bl (decide (k ≤ l))) h := rfl
@[simp] theorem gtF_int : gtF (.int k) (.int l) h = .ok (.bl (decide (l < k))) h := rfl
@[simp] theorem geF_int : geF (.int k) (.int l) h = .ok (.bl (decide (l ≤ k))) h := rfl
@[simp] theorem eqF_int : eqF (.int k) (.int l) h = .ok (.bl (decide (k = l))) h := rfl
@[simp] theorem neF_int : neF (.int k) (.int l) h = .ok (.bl (!decide (k = l))) h := rfl
@[simp] theorem eqF_str {k l : Str} : eqF (.str k) (.str l) h = .ok (.bl (decide (k = l))) h := rfl
@[simp] theorem neF_str {k l : Str} : neF (.str k) (.str l) h = .ok (.bl (!decide (k = l))) h := rfl
@[simp] theorem eqF_bl {k l : Bool} : eqF (.bl k) (.bl l) h = .ok (.bl (decide (k = l))) h := rfl
@[simp] theorem neF_bl {k l : Bool} : neF (.bl k) (.bl l) h = .ok (.bl (!decide (k = l))) h := rfl
@[simp] theorem isF_non : isF d .non h = .ok (.bl (isNonD d)) h := rfl
@[simp] theorem isNotF_non : isNotF d .non h = .ok (.bl (!isNonD d)) h := rfl
@[simp] theorem intF_int : intF (.int k) h = .ok (.int k) h := rfl
@[simp] theorem intF_bl {b : Bool} : intF (.bl b) h = .ok (.int (if b then 1 else 0)) h := rfl
@[simp] theorem absF_int : absF (.int k) h = .ok (.int (if k < 0 then -k else k)) h := rfl
@[simp] theorem max2F_int : max2F (.int k) (.int l) h = .ok (.int (if l > k then l else k)) h := rfl
@[simp] theorem min2F_int : min2F (.int k) (.int l) h = .ok (.int (if l < k then l else k)) h := rfl
theorem log2_small {m : Nat} (q : l.natAbs < 2 ^ m) (z : 0 < m) : l.natAbs.log2 < m := by
  by_cases e : l.natAbs = 0
  · rw [e]; exact z
  · exact (Nat.log2_lt e).mpr q
/-- numbers of at most 4000 bits: small enough for all that is asked of sizes -/
def sm (i : Int) : Prop := i.natAbs < 2 ^ 4000
@[simp] theorem modF_int (q : 0 < l) (z : sm l) : modF (.int k) (.int l) h = .ok (.int (k % l)) h := by
  have : l.natAbs.log2 < 4000 := log2_small z (by omega)
  unfold modF stepI
  simp [q]
@[simp] theorem fdivF_int (q : 0 < l) (z : sm l) : fdivF (.int k) (.int l) h = .ok (.int (k / l)) h := by
  have : l.natAbs.log2 < 4000 := log2_small z (by omega)
  have c : 0 < l ∧ l.natAbs.log2 < 9000 := ⟨q, by omega⟩
  unfold fdivF stepI
  simp only [if_pos c]
@[simp] theorem mulF_int (q : sm k) (z : sm l) : mulF (.int k) (.int l) h = .ok (.int (k * l)) h := by
  have h1 : l.natAbs.log2 < 4000 := log2_small z (by omega)
  have h2 : k.natAbs.log2 < 4000 := log2_small q (by omega)
  have c : bitsOk k l = true := by unfold bitsOk; exact Nat.ble_eq_true_of_le (by omega)
  show iMul (.int k) (.int l) h = _
  unfold iMul stepI
  simp only [if_pos c]
@[simp] theorem powF_int (q : 0 ≤ l ∧ l ≤ 1000000 ∧ k.natAbs < 2 ^ 64) : powF (.int k) (.int l) h = .ok (.int (k ^ l.toNat)) h := by
  have q : 0 ≤ l ∧ powOk k l = true := ⟨q.1, (powOk_iff q.1).mpr q.2⟩
  unfold powF stepI
  simp only [if_pos q]
theorem shlF_big (q : 0 ≤ l ∧ l ≤ 1000000) (z : sm k) : shlF (.int k) (.int l) h = .ok (.int (k * 2 ^ l.toNat)) h := by
  have h2 : k.natAbs.log2 < 4000 := log2_small z (by omega)
  have c : 0 ≤ l ∧ shlOk k l = true := ⟨q.1, (shlOk_iff q.1).mpr ⟨q.2, by omega⟩⟩
  unfold shlF stepI
  simp only [if_pos c]
@[simp] theorem shlF_int (q : 0 ≤ l ∧ l ≤ 1000000 ∧ k.natAbs < 2 ^ 64) : shlF (.int k) (.int l) h = .ok (.int (k * 2 ^ l.toNat)) h :=
  shlF_big ⟨q.1, q.2.1⟩ (Nat.lt_of_lt_of_le q.2.2 (Nat.pow_le_pow_right (by omega) (by omega)))
@[simp] theorem shrF_int (q : 0 ≤ l) : shrF (.int k) (.int l) h = .ok (.int (k / 2 ^ l.toNat)) h := by
  unfold shrF stepI
  simp only [if_pos q]
theorem sm_of {i : Int} {n : Nat} (q : i.natAbs < 2 ^ n) (z : n ≤ 4000) : sm i := Nat.lt_of_lt_of_le q (Nat.pow_le_pow_right (by omega) z)
@[simp] theorem sm_lt {i : Int} (q : -18446744073709551616 < i) (z : i < 18446744073709551616) : sm i := sm_of (n := 64) (by omega) (by omega)
/-! ### statements -/
@[simp] theorem nextS_ap : nextS e h = .nxt e h := rfl
@[simp] theorem brkS_ap : brkS e h = .brk e h := rfl
@[simp] theorem cntS_ap : cntS e h = .cnt e h := rfl
theorem retS_ap {m : EM} : retS m e h = (m e h).bindS e fun d h1 => .ret d h1 := rfl
@[simp] theorem retNS_ap : retNS e h = .ret .non h := rfl
@[simp] theorem raiseS_ap : raiseS c e h = .exc c e h := rfl
theorem exprS_ap {m : EM} : exprS m e h = (m e h).bindS e fun _ h1 => .nxt e h1 := rfl
def asgO (t : Tgt) (d : D) (e : Env) (h : PH) : Out := match tgt t d e h with
  | some e1 => .nxt e1 h
  | none => .stuck
theorem asgS_ap {m : EM} {t : Tgt} : asgS m t e h = (m e h).bindS e fun d h1 => asgO t d e h1 := rfl
@[simp] theorem asgO_one : asgO (.one i) d e h = .nxt (e.set i (some d)) h := rfl
def Res.rt (r : Res D) (e : Env) : Out := r.bindS e fun d h1 => .ret d h1
@[simp] theorem retS_fr {m : EM} : retS m e h = (m e h).rt e := rfl
@[simp] theorem rt_ok : (Res.ok d h).rt e = .ret d h := rfl
@[simp] theorem rt_exc : (Res.exc c h).rt e = .exc c e h := rfl
def Res.ex (r : Res D) (e : Env) : Out := r.bindS e fun _ h1 => .nxt e h1
@[simp] theorem exprS_fr {m : EM} : exprS m e h = (m e h).ex e := rfl
@[simp] theorem ex_ok : (Res.ok d h).ex e = .nxt e h := rfl
@[simp] theorem ex_exc : (Res.exc c h).ex e = .exc c e h := rfl
def Res.asg (r : Res D) (t : Tgt) (e : Env) : Out := r.bindS e fun d h1 => asgO t d e h1
@[simp] theorem asgS_fr {m : EM} {t : Tgt} : asgS m t e h = (m e h).asg t e := rfl
@[simp] theorem asg_ok {t : Tgt} : (Res.ok d h).asg t e = asgO t d e h := rfl
@[simp] theorem asg_exc {t : Tgt} : (Res.exc c h).asg t e = .exc c e h := rfl
@[simp] theorem tgt_one : tgt (.one i) d e h = some (e.set i (some d)) := rfl
@[simp] theorem tgt_tup {is : List Nat} (q : ds.length = is.length) : tgt (.many is) (.tup ds) e h = some (setAll is ds e) := by
  show (if ds.length = is.length then _ else none) = _
  rw [if_pos q]
@[simp] theorem asgO_tup {is : List Nat} (q : ds.length = is.length) : asgO (.many is) (.tup ds) e h = .nxt (setAll is ds e) h := by
  unfold asgO
  rw [tgt_tup q]
theorem parS_ap {m : AM} : parS m i j e h = (m e h).bindS e fun vs h1 => match vs with
  | [v, w] => .nxt ((e.set i (some v)).set j (some w)) h1
  | _ => .stuck := rfl
def setO (x k d : D) (e : Env) (h : PH) : Out := match setIx x k d h with
  | some h4 => .nxt e h4
  | none => .stuck
theorem sixS_ap {m o x : EM} : sixS m o x e h = (m e h).bindS e fun d h1 => (o e h1).bindS e fun v h2 => (x e h2).bindS e fun k h3 => setO v k d e h3 := rfl
def Res.s1 (r : Res D) (o x : EM) (e : Env) : Out := r.bindS e fun d h1 => (o e h1).bindS e fun v h2 => (x e h2).bindS e fun k h3 => setO v k d e h3
def Res.s2 (r : Res D) (d : D) (x : EM) (e : Env) : Out := r.bindS e fun v h2 => (x e h2).bindS e fun k h3 => setO v k d e h3
def Res.s3 (r : Res D) (d v : D) (e : Env) : Out := r.bindS e fun k h3 => setO v k d e h3
@[simp] theorem sixS_fr {m o x : EM} : sixS m o x e h = (m e h).s1 o x e := rfl
@[simp] theorem s1_ok {o x : EM} : (Res.ok d h).s1 o x e = (o e h).s2 d x e := rfl
@[simp] theorem s1_exc {o x : EM} : (Res.exc c h).s1 o x e = .exc c e h := rfl
@[simp] theorem s2_ok {x : EM} : (Res.ok y h).s2 d x e = (x e h).s3 d y e := rfl
@[simp] theorem s3_ok : (Res.ok y h).s3 d x e = setO x y d e h := rfl
def Res.ps (r : Res (List D)) (i j : Nat) (e : Env) : Out := r.bindS e fun vs h1 => match vs with
  | [v, w] => .nxt ((e.set i (some v)).set j (some w)) h1
  | _ => .stuck
@[simp] theorem parS_fr {m : AM} : parS m i j e h = (m e h).ps i j e := rfl
@[simp] theorem ps_ok : (Res.ok [x, y] h).ps i j e = .nxt ((e.set i (some x)).set j (some y)) h := rfl
def Res.nt (r : Res Bool) : Res Bool := r.bind fun b h1 => .ok (!b) h1
@[simp] theorem notT_fr {t : TM} : notT t e h = (t e h).nt := rfl
@[simp] theorem nt_ok {b : Bool} : (Res.ok b h).nt = .ok (!b) h := rfl
@[simp] theorem notF_bl {b : Bool} : notF (.bl b) h = .ok (.bl (!b)) h := rfl
/-! ### calls -/
def Out.fin (o : Out) (l : Nat) : Res D := match o with
  | .nxt _ h1 => finF l .non h1
  | .ret d h1 => finF l d h1
  | .exc c _ h1 => .exc c (h1.cut (max l h1.lim))
  | _ => .stuck
theorem Out.fin_cg {o o' : Out} {l : Nat} (q : o = o') : o.fin l = o'.fin l := by rw [q]
@[simp] theorem runF_ap {np nn : Nat} (q : ds.length = np) : runF b np nn ds h = (b (ds.map some ++ List.replicate (nn - np) none) h).fin h.cs.length := by
  unfold runF
  rw [if_pos q]
  cases b (ds.map some ++ List.replicate (nn - np) none) h <;> rfl
@[simp] theorem fin_nxt {l : Nat} : (Out.nxt e h).fin l = .ok .non (h.cut (max l h.lim)) := by
  show Res.ok D.non (h.cut (max l (max h.lim (D.mr .non)))) = _
  have : max h.lim (D.mr .non) = h.lim := by show max h.lim 0 = _; omega
  rw [this]
@[simp] theorem fin_ret {l : Nat} : (Out.ret d h).fin l = .ok d (h.cut (max l (max h.lim d.mr))) := rfl
@[simp] theorem fin_exc {l : Nat} : (Out.exc c e h).fin l = .exc c (h.cut (max l h.lim)) := rfl
@[simp] theorem callF_ap {f : Fn} (q : ds.length = n) : callF n f ds h = f ds h := by unfold callF; rw [if_pos q]
@[simp] theorem cut_max {m : Nat} : h.cut (max h.cs.length m) = h := by
  unfold PH.cut
  rw [List.take_of_length_le (by omega)]
theorem cut_ge {m : Nat} (q : h.cs.length ≤ m) : h.cut m = h := by
  unfold PH.cut
  rw [List.take_of_length_le q]
/-! ### tries -/
def Out.tryO (o : Out) (v : Option Nat) (sub : Str → Option Bool) (suite : Str → SM) : Out := match o with
  | .exc c e1 h1 => (match sub c with
    | some true => (match v with
      | some i => if i < e1.length then unb v (suite c (e1.set i none) h1) else .stuck
      | none => unb v (suite c e1 h1))
    | some false => .exc c e1 h1
    | none => .stuck)
  | .nxt e1 h1 => .nxt e1 h1
  | .ret d h1 => .ret d h1
  | .brk e1 h1 => .brk e1 h1
  | .cnt e1 h1 => .cnt e1 h1
  | .stuck => .stuck
@[simp] theorem tryS_ap {v : Option Nat} {sub : Str → Option Bool} {suite : Str → SM} : tryS b v sub suite e h = (b e h).tryO v sub suite := by
  unfold tryS Out.tryO
  cases b e h <;> rfl
theorem Out.tryO_cg {o o' : Out} {v : Option Nat} {sub : Str → Option Bool} {suite : Str → SM} (q : o = o') : o.tryO v sub suite = o'.tryO v sub suite := by rw [q]
@[simp] theorem try_nxt {v : Option Nat} {sub : Str → Option Bool} {suite : Str → SM} : (Out.nxt e h).tryO v sub suite = .nxt e h := rfl
@[simp] theorem try_ret {v : Option Nat} {sub : Str → Option Bool} {suite : Str → SM} : (Out.ret d h).tryO v sub suite = .ret d h := rfl
@[simp] theorem try_exc {sub : Str → Option Bool} {suite : Str → SM} (q : sub c = some true) (z : i < e.length) : (Out.exc c e h).tryO (some i) sub suite = unb (some i) (suite c (e.set i none) h) := by
  show (match sub c with
    | some true => if i < e.length then unb (some i) (suite c (e.set i none) h) else .stuck
    | some false => .exc c e h
    | none => .stuck) = _
  rw [q]
  show (if i < e.length then _ else _) = _
  rw [if_pos z]
@[simp] theorem unb_ret {v : Option Nat} : unb v (.ret d h) = .ret d h := rfl
@[simp] theorem unb_nxt {v : Nat} : unb (some v) (.nxt e h) = .nxt (e.set v none) h := rfl
theorem unb_cg {v : Option Nat} {o o' : Out} (q : o = o') : unb v o = unb v o' := by rw [q]
/-! ### lists, tuples -/
theorem ixF_tup (q : atI ds k = some d) : ixF (.tup ds) (.int k) h = .ok d h := by
  show (match atI ds k with | some d => Res.ok d h | none => .stuck) = _
  rw [q]
theorem ixF_frl (q : atI ds k = some d) : ixF (.frl ds) (.int k) h = .ok d h := by
  show (match atI ds k with | some d => Res.ok d h | none => .stuck) = _
  rw [q]
theorem ixF_ref (z : h.cs[n]? = some (.lst ds)) (q : atI ds k = some d) : ixF (.ref n) (.int k) h = .ok d h := by
  have e : itemsS h (.ref n) = some ds := by show (match h.cs[n]? with | some (.lst ds) => some ds | _ => none) = _; rw [z]
  show (match (match itemsS h (.ref n) with | some ds => atI ds k | none => none) with | some d => Res.ok d h | none => .stuck) = _
  rw [e]
  show (match atI ds k with | some d => Res.ok d h | none => .stuck) = _
  rw [q]
@[simp] theorem lenF_tup : lenF (.tup ds) h = .ok (.int ds.length) h := rfl
@[simp] theorem lenF_frl : lenF (.frl ds) h = .ok (.int ds.length) h := rfl
theorem lenF_ref (z : h.cs[n]? = some (.lst ds)) : lenF (.ref n) h = .ok (.int ds.length) h := by
  have e : itemsS h (.ref n) = some ds := by show (match h.cs[n]? with | some (.lst ds) => some ds | _ => none) = _; rw [z]
  show (match itemsS h (.ref n) with | some ds => Res.ok (D.int ds.length) h | none => .stuck) = _
  rw [e]
@[simp] theorem lenF_str (q : s.length ≤ 16777216) : lenF (.str s) h = .ok (.int s.length) h := by
  show (if s.length ≤ 16777216 then _ else _) = _
  rw [if_pos q]
theorem tupleF_ref (z : h.cs[n]? = some (.lst ds)) : tupleF (.ref n) h = .ok (.tup ds) h := by
  have e : itemsS h (.ref n) = some ds := by show (match h.cs[n]? with | some (.lst ds) => some ds | _ => none) = _; rw [z]
  unfold tupleF
  rw [e]
theorem listF_ref (z : h.cs[n]? = some (.lst ds)) : listF (.ref n) h = newL ds h := by
  have e : itemsS h (.ref n) = some ds := by show (match h.cs[n]? with | some (.lst ds) => some ds | _ => none) = _; rw [z]
  unfold listF
  rw [e]
@[simp] theorem tupleF_tup : tupleF (.tup ds) h = .ok (.tup ds) h := rfl
theorem listF_tup : listF (.tup ds) h = newL ds h := rfl
theorem listF_frl : listF (.frl ds) h = newL ds h := rfl
@[simp] theorem lstF_ap (q : ds.length ≤ 16777216) : lstF ds h = .ok (.ref h.cs.length) (h.push (.lst ds)) := by
  unfold lstF
  rw [if_pos q]
theorem newL_ap : newL ds h = .ok (.ref h.cs.length) (h.push (.lst ds)) := rfl
theorem setO_ref (z : h.cs[n]? = some (.lst ds)) (q : ixN ds.length k = some j) : setO (.ref n) (.int k) d e h = .nxt e (h.put n (.lst (ds.set j d))) := by
  have r : refLst h (.ref n) = some (n, ds) := by show (match h.cs[n]? with | some (.lst ds) => some (n, ds) | _ => none) = _; rw [z]
  unfold setO setIx
  rw [r]
  simp only [q]
theorem appF_ref (z : h.cs[n]? = some (.lst ds)) (q : ds.length < 16777216) : appF (.ref n) [d] h = .ok .non (h.put n (.lst (ds ++ [d]))) := by
  have r : refLst h (.ref n) = some (n, ds) := by show (match h.cs[n]? with | some (.lst ds) => some (n, ds) | _ => none) = _; rw [z]
  unfold appF
  rw [r]
  simp only [if_pos q]
theorem atI_nat {xs : List D} {m : Nat} : atI xs ((m : Nat) : Int) = xs[m]? := by
  unfold atI ixN
  rw [if_pos (Int.natCast_nonneg m)]
  by_cases q : (m : Int) < (xs.length : Int)
  · rw [if_pos q]
    show xs[((m : Nat) : Int).toNat]? = _
    simp
  · rw [if_neg q, List.getElem?_eq_none (by omega)]; rfl
theorem ixN_nat {n m : Nat} (q : m < n) : ixN n ((m : Nat) : Int) = some m := by
  unfold ixN
  rw [if_pos (Int.natCast_nonneg m), if_pos (by omega)]
  simp
/-! ### what is looked up, as functions -/
def vget (o : Option (Option D)) (h : PH) : Res D := match o with
  | some (some d) => .ok d h
  | _ => .stuck
@[simp] theorem vE_ap : vE i e h = vget e[i]? h := by
  unfold vE vget
  cases e[i]? with
  | none => rfl
  | some o => cases o <;> rfl
@[simp] theorem vget_some : vget (some (some d)) h = .ok d h := rfl
def lstO (o : Option Cell) : Option (List D) := match o with
  | some (.lst ds) => some ds
  | _ => none
@[simp] theorem lstO_some : lstO (some (.lst ds)) = some ds := rfl
def okO (o : Option D) (h : PH) : Res D := match o with
  | some d => .ok d h
  | none => .stuck
@[simp] theorem okO_some : okO (some d) h = .ok d h := rfl
def withL {α : Type} (o : Option (List D)) (f : List D → Res α) : Res α := match o with
  | some ds => f ds
  | none => .stuck
@[simp] theorem withL_some {f : List D → Res α} : withL (some ds) f = f ds := rfl
theorem withL_cg {o o' : Option (List D)} {f : List D → Res α} (q : o = o') : withL o f = withL o' f := by rw [q]
def PH.at (h : PH) (n : Nat) : Option Cell := h.cs[n]?
theorem PH.at_eq : h.at n = h.cs[n]? := rfl
@[simp] theorem at_mk {cs : List Cell} {l : Nat} : (PH.mk cs l).at n = cs[n]? := rfl
theorem itemsS_ref : itemsS h (.ref n) = lstO (h.at n) := by
  show (match h.cs[n]? with | some (.lst ds) => some ds | _ => none) = _
  rw [PH.at_eq]
  unfold lstO
  cases h.cs[n]? with
  | none => rfl
  | some c => cases c <;> rfl
theorem itemsL_ref : itemsL h (.ref n) = lstO (h.at n) := itemsS_ref (h := h)
@[simp] theorem ixF_tupO : ixF (.tup ds) (.int k) h = okO (atI ds k) h := by
  show (match atI ds k with | some d => Res.ok d h | none => .stuck) = _
  cases atI ds k <;> rfl
@[simp] theorem ixF_frlO : ixF (.frl ds) (.int k) h = okO (atI ds k) h := by
  show (match atI ds k with | some d => Res.ok d h | none => .stuck) = _
  cases atI ds k <;> rfl
@[simp] theorem ixF_refO : ixF (.ref n) (.int k) h = withL (lstO (h.at n)) fun ds => okO (atI ds k) h := by
  rw [PH.at_eq]
  cases z : h.cs[n]? with
  | none =>
    have e : itemsS h (.ref n) = none := by rw [itemsS_ref, PH.at_eq, z]; rfl
    show (match (match itemsS h (.ref n) with | some ds => atI ds k | none => none) with | some d => Res.ok d h | none => .stuck) = _
    rw [e]; rfl
  | some c =>
    have e : itemsS h (.ref n) = lstO (some c) := by rw [itemsS_ref, PH.at_eq, z]
    show (match (match itemsS h (.ref n) with | some ds => atI ds k | none => none) with | some d => Res.ok d h | none => .stuck) = _
    rw [e]
    cases c with
    | lst ds =>
      show (match atI ds k with | some d => Res.ok d h | none => .stuck) = okO (atI ds k) h
      cases atI ds k <;> rfl
    | _ => rfl
@[simp] theorem lenF_refO : lenF (.ref n) h = withL (lstO (h.at n)) fun ds => .ok (.int ds.length) h := by
  show (match itemsS h (.ref n) with | some ds => Res.ok (D.int ds.length) h | none => .stuck) = _
  rw [itemsS_ref]
  cases lstO (h.at n) <;> rfl
@[simp] theorem tupleF_refO : tupleF (.ref n) h = withL (lstO (h.at n)) fun ds => .ok (.tup ds) h := by
  unfold tupleF
  rw [itemsS_ref]
  cases lstO (h.at n) <;> rfl
@[simp] theorem listF_refO : listF (.ref n) h = withL (lstO (h.at n)) fun ds => .ok (.ref h.cs.length) (h.push (.lst ds)) := by
  unfold listF
  rw [itemsS_ref]
  cases lstO (h.at n) <;> rfl
@[simp] theorem listF_tupO : listF (.tup ds) h = .ok (.ref h.cs.length) (h.push (.lst ds)) := rfl
@[simp] theorem listF_frlO : listF (.frl ds) h = .ok (.ref h.cs.length) (h.push (.lst ds)) := rfl
def setW (o : Option (List D)) (f : List D → Out) : Out := match o with
  | some ds => f ds
  | none => .stuck
@[simp] theorem setW_some {f : List D → Out} : setW (some ds) f = f ds := rfl
theorem setW_cg {o o' : Option (List D)} {f : List D → Out} (q : o = o') : setW o f = setW o' f := by rw [q]
def setJ (o : Option Nat) (f : Nat → Out) : Out := match o with
  | some j => f j
  | none => .stuck
@[simp] theorem setJ_some {f : Nat → Out} : setJ (some j) f = f j := rfl
theorem setJ_cg {o o' : Option Nat} {f : Nat → Out} (q : o = o') : setJ o f = setJ o' f := by rw [q]
@[simp] theorem setO_refO : setO (.ref n) (.int k) d e h = setW (lstO (h.at n)) fun ds => setJ (ixN ds.length k) fun j => .nxt e (h.put n (.lst (ds.set j d))) := by
  rw [PH.at_eq]
  cases z : h.cs[n]? with
  | none =>
    have r : refLst h (.ref n) = none := by show (match h.cs[n]? with | some (.lst ds) => some (n, ds) | _ => none) = _; rw [z]
    unfold setO setIx
    rw [r]; rfl
  | some c =>
    cases c with
    | lst ds =>
      have r : refLst h (.ref n) = some (n, ds) := by show (match h.cs[n]? with | some (.lst ds) => some (n, ds) | _ => none) = _; rw [z]
      unfold setO setIx
      rw [r]
      show (match (match ixN ds.length k with | some j => some (h.put n (.lst (ds.set j d))) | none => none) with | some h4 => Out.nxt e h4 | none => .stuck) = setJ (ixN ds.length k) _
      cases ixN ds.length k <;> rfl
    | _ =>
      have r : refLst h (.ref n) = none := by show (match h.cs[n]? with | some (.lst ds) => some (n, ds) | _ => none) = _; rw [z]
      unfold setO setIx
      rw [r]; rfl
@[simp] theorem appF_refO : appF (.ref n) [d] h = withL (lstO (h.at n)) fun ds => if ds.length < 16777216 then .ok .non (h.put n (.lst (ds ++ [d]))) else .stuck := by
  rw [PH.at_eq]
  cases z : h.cs[n]? with
  | none =>
    have r : refLst h (.ref n) = none := by show (match h.cs[n]? with | some (.lst ds) => some (n, ds) | _ => none) = _; rw [z]
    unfold appF
    rw [r]; rfl
  | some c =>
    cases c with
    | lst ds =>
      have r : refLst h (.ref n) = some (n, ds) := by show (match h.cs[n]? with | some (.lst ds) => some (n, ds) | _ => none) = _; rw [z]
      unfold appF
      rw [r]; rfl
    | _ =>
      have r : refLst h (.ref n) = none := by show (match h.cs[n]? with | some (.lst ds) => some (n, ds) | _ => none) = _; rw [z]
      unfold appF
      rw [r]; rfl
@[simp] theorem at0 {xs : List D} : atI (d :: xs) 0 = some d := by rw [show (0 : Int) = ((0 : Nat) : Int) from rfl, atI_nat]; rfl
@[simp] theorem at1 {xs : List D} {d0 : D} : atI (d0 :: d :: xs) 1 = some d := by rw [show (1 : Int) = ((1 : Nat) : Int) from rfl, atI_nat]; rfl
@[simp] theorem at2 {xs : List D} {d0 d1 : D} : atI (d0 :: d1 :: d :: xs) 2 = some d := by rw [show (2 : Int) = ((2 : Nat) : Int) from rfl, atI_nat]; rfl
@[simp] theorem at3 {xs : List D} {d0 d1 d2 : D} : atI (d0 :: d1 :: d2 :: d :: xs) 3 = some d := by rw [show (3 : Int) = ((3 : Nat) : Int) from rfl, atI_nat]; rfl
@[simp] theorem at4 {xs : List D} {d0 d1 d2 d3 : D} : atI (d0 :: d1 :: d2 :: d3 :: d :: xs) 4 = some d := by rw [show (4 : Int) = ((4 : Nat) : Int) from rfl, atI_nat]; rfl
@[simp] theorem at5 {xs : List D} {d0 d1 d2 d3 d4 : D} : atI (d0 :: d1 :: d2 :: d3 :: d4 :: d :: xs) 5 = some d := by rw [show (5 : Int) = ((5 : Nat) : Int) from rfl, atI_nat]; rfl
@[simp] theorem at6 {xs : List D} {d0 d1 d2 d3 d4 d5 : D} : atI (d0 :: d1 :: d2 :: d3 :: d4 :: d5 :: d :: xs) 6 = some d := by rw [show (6 : Int) = ((6 : Nat) : Int) from rfl, atI_nat]; rfl
theorem at_int {xs : List D} (q : 0 ≤ k) : atI xs k = xs[k.toNat]? := by
  obtain ⟨m, rfl⟩ := Int.eq_ofNat_of_zero_le q
  rw [atI_nat]; rfl
@[simp] theorem ixN0 : ixN (n + 1) 0 = some 0 := ixN_nat (m := 0) (by omega)
@[simp] theorem ixN1 : ixN (n + 2) 1 = some 1 := ixN_nat (m := 1) (by omega)
@[simp] theorem ixN2 : ixN (n + 3) 2 = some 2 := ixN_nat (m := 2) (by omega)
@[simp] theorem ixN3 : ixN (n + 4) 3 = some 3 := ixN_nat (m := 3) (by omega)
@[simp] theorem ixN4 : ixN (n + 5) 4 = some 4 := ixN_nat (m := 4) (by omega)
theorem ixN_int (q : 0 ≤ k) (z : k < n) : ixN n k = some k.toNat := by
  obtain ⟨m, rfl⟩ := Int.eq_ofNat_of_zero_le q
  exact ixN_nat (Int.ofNat_lt.mp z)
@[simp] theorem put_le {c : Cell} (q : c.mr ≤ n) : h.put n c = ⟨h.cs.set n c, h.lim⟩ := by unfold PH.put; rw [if_pos q]
@[simp] theorem push_ap {c : Cell} : h.push c = ⟨h.cs ++ [c], h.lim⟩ := rfl
/-! ### loops -/
def Res.lp (r : Res Src) (t : Tgt) (b : SM) (e : Env) : Out := r.bindS e fun s h1 => forL t b s h1.cs.length (s.fuel h1) 0 e h1
@[simp] theorem forS_fr {m : IM} {t : Tgt} : forS m t b e h = (m e h).lp t b e := rfl
theorem lp_ok {t : Tgt} : (Res.ok (.vals ds) h).lp t b e = forL t b (.vals ds) h.cs.length (ds.length + 1) 0 e h := rfl
def Res.sl (r : Res D) (lo hi : OM) (e : Env) : Res D := r.bind fun d h1 => (lo e h1).bind fun l h2 => (hi e h2).bind fun u h3 => slF d l u h3
def Res.sl2 (r : Res (Option Int)) (d : D) (hi : OM) (e : Env) : Res D := r.bind fun l h2 => (hi e h2).bind fun u h3 => slF d l u h3
def Res.sl3 (r : Res (Option Int)) (d : D) (l : Option Int) : Res D := r.bind fun u h3 => slF d l u h3
@[simp] theorem slE_fr {m : EM} {lo hi : OM} : slE m lo hi e h = (m e h).sl lo hi e := rfl
@[simp] theorem sl_ok {lo hi : OM} : (Res.ok d h).sl lo hi e = (lo e h).sl2 d hi e := rfl
@[simp] theorem sl2_ok {v : Option Int} {hi : OM} : (Res.ok v h).sl2 d hi e = (hi e h).sl3 d v := rfl
@[simp] theorem sl3_ok {v u : Option Int} : (Res.ok u h).sl3 d v = slF d v u h := rfl
@[simp] theorem noO_ap : noO e h = .ok none h := rfl
def Res.so (r : Res D) : Res (Option Int) := r.bind fun d h1 => match d with
  | .int i => .ok (some i) h1
  | _ => .stuck
@[simp] theorem someO_fr {m : EM} : someO m e h = (m e h).so := rfl
@[simp] theorem so_ok : (Res.ok (.int k) h).so = .ok (some k) h := rfl
theorem forS_ap {m : IM} {t : Tgt} : forS m t b e h = (m e h).bindS e fun s h1 => forL t b s h1.cs.length (s.fuel h1) 0 e h1 := rfl
@[simp] theorem rngE_ap {f : List D → PH → Res Src} {m : AM} : rngE f m e h = (m e h).bind f := rfl
@[simp] theorem srcE_ap {m : EM} : srcE m e h = (m e h).bind srcF := rfl
@[simp] theorem revE_ap {m : EM} : revE m e h = (m e h).bind revSrc := rfl
@[simp] theorem srcF_tup : srcF (.tup ds) h = .ok (.vals ds) h := rfl
@[simp] theorem srcF_frl : srcF (.frl ds) h = .ok (.vals ds) h := rfl
@[simp] theorem srcF_str : srcF (.str s) h = .ok (.vals (signs s)) h := rfl
@[simp] theorem revSrc_tup : revSrc (.tup ds) h = .ok (.vals ds.reverse) h := rfl
@[simp] theorem range1 (q : in62 k = true) : rangeF1 [.int k] h = .ok (.vals (rangeD 0 1 k.toNat)) h := by
  unfold rangeF1
  simp only [if_pos q]
@[simp] theorem range2 (q : in62 k = true ∧ in62 l = true) : rangeF2 [.int k, .int l] h = .ok (.vals (rangeD k 1 (l - k).toNat)) h := by
  unfold rangeF2
  simp only [if_pos q]
/-- a loop over given values: each turn keeps I, ends the loop well, or goes out by Q -/
def Turn (o : Out) (I : Env → PH → Prop) (Q : Out → Prop) : Prop := match o with
  | .nxt e h => I e h
  | .cnt e h => I e h
  | .brk e h => Q (.nxt e h)
  | .ret d h => Q (.ret d h)
  | .exc c e h => Q (.exc c e h)
  | .stuck => False
def Out.next (o : Out) (t : Tgt) (b : SM) (s : Src) (l f i : Nat) : Out := match o with
  | .nxt e2 h2 => forL t b s l f i e2 (h2.gc l e2)
  | .cnt e2 h2 => forL t b s l f i e2 (h2.gc l e2)
  | .brk e2 h2 => .nxt e2 h2
  | .ret d h2 => .ret d h2
  | .exc c e2 h2 => .exc c e2 h2
  | .stuck => .stuck
theorem forL_end {t : Tgt} {sr : Src} {l f : Nat} (q : sr.item i h = some none) : forL t b sr l (f + 1) i e h = .nxt e h := by
  rw [forL, q]
theorem forL_go {t : Tgt} {sr : Src} {l f : Nat} (q : sr.item i h = some (some d)) (z : tgt t d e h = some e1) : forL t b sr l (f + 1) i e h = (b e1 h).next t b sr l f (i + 1) := by
  rw [forL, q]
  simp only [z]
  unfold Out.next
  cases b e1 h <;> rfl
theorem next_nxt {t : Tgt} {sr : Src} {l f : Nat} : (Out.nxt e h).next t b sr l f i = forL t b sr l f i e (h.gc l e) := rfl
theorem next_cnt {t : Tgt} {sr : Src} {l f : Nat} : (Out.cnt e h).next t b sr l f i = forL t b sr l f i e (h.gc l e) := rfl
theorem next_brk {t : Tgt} {sr : Src} {l f : Nat} : (Out.brk e h).next t b sr l f i = .nxt e h := rfl
theorem next_ret {t : Tgt} {sr : Src} {l f : Nat} : (Out.ret d h).next t b sr l f i = .ret d h := rfl
theorem next_exc {t : Tgt} {sr : Src} {l f : Nat} : (Out.exc c e h).next t b sr l f i = .exc c e h := rfl
theorem forL_by {t : Tgt} {sr : Src} {n l : Nat} {Q : Out → Prop} (I : Nat → Env → PH → Prop)
    (step : ∀ i e h, i < n → I i e h → ∃ d e1, sr.item i h = some (some d) ∧ tgt t d e h = some e1 ∧ Turn (b e1 h) (fun e2 h2 => I (i + 1) e2 (h2.gc l e2)) Q)
    (fin : ∀ e h, I n e h → sr.item n h = some none ∧ Q (.nxt e h)) : ∀ (f i : Nat) (e : Env) (h : PH), i + f = n + 1 → i ≤ n → I i e h → Q (forL t b sr l f i e h) := by
  intro f
  induction f with
  | zero => intro i e h q le z; omega
  | succ f ih =>
    intro i e h q le z
    by_cases hi : i < n
    · obtain ⟨d, e1, h0, h1, h2⟩ := step i e h hi z
      rw [forL_go h0 h1]
      unfold Turn at h2
      unfold Out.next
      cases q' : b e1 h with
      | nxt e2 h3 => rw [q'] at h2; exact ih _ _ _ (by omega) (by omega) h2
      | cnt e2 h3 => rw [q'] at h2; exact ih _ _ _ (by omega) (by omega) h2
      | brk e2 h3 => rw [q'] at h2; exact h2
      | ret d h3 => rw [q'] at h2; exact h2
      | exc c e2 h3 => rw [q'] at h2; exact h2
      | stuck => rw [q'] at h2; exact h2.elim
    · have ei : i = n := by omega
      subst ei
      obtain ⟨h1, h2⟩ := fin e h z
      rw [forL_end h1]
      exact h2
theorem item_vals {xs : List D} : (Src.vals xs).item i h = some xs[i]? := rfl
theorem item_cell {xs : List D} (q : h.cs[n]? = some (.lst xs)) : (Src.cell n).item i h = some xs[i]? := by
  show (match h.cs[n]? with | some (.lst ds) => some ds[i]? | _ => none) = _
  rw [q]
/-- over given values -/
theorem for_vals {t : Tgt} {xs : List D} {l : Nat} {Q : Out → Prop} (I : Nat → Env → PH → Prop)
    (step : ∀ i e h d, i < xs.length → xs[i]? = some d → I i e h → ∃ e1, tgt t d e h = some e1 ∧ Turn (b e1 h) (fun e2 h2 => I (i + 1) e2 (h2.gc l e2)) Q)
    (fin : ∀ e h, I xs.length e h → Q (.nxt e h)) (z : I 0 e h) : Q (forL t b (.vals xs) l (xs.length + 1) 0 e h) :=
  forL_by (n := xs.length) I (fun i e h hi z => by
    have e0 : xs[i]? = some xs[i] := List.getElem?_eq_getElem hi
    obtain ⟨e1, h1, h2⟩ := step i e h xs[i] hi e0 z
    exact ⟨_, e1, by rw [item_vals, e0], h1, h2⟩) (fun e h z => ⟨by rw [item_vals, List.getElem?_eq_none (by omega)], fin e h z⟩) _ _ _ _ (by omega) (by omega) z
theorem rangeD_len {i c : Int} {n : Nat} : (rangeD i c n).length = n := by unfold rangeD; simp
theorem rangeD_get {i c : Int} {m n : Nat} (q : m < n) : (rangeD i c n)[m]? = some (.int (i + (m : Int) * c)) := by
  unfold rangeD
  rw [List.getElem?_map, List.getElem?_range q]; rfl
/-- .. over range(n) -/
theorem for_range {t : Tgt} {m l : Nat} {j : Int} {Q : Out → Prop} (I : Nat → Env → PH → Prop)
    (step : ∀ i e h, i < m → I i e h → ∃ e1, tgt t (.int (j + (i : Int) * 1)) e h = some e1 ∧ Turn (b e1 h) (fun e2 h2 => I (i + 1) e2 (h2.gc l e2)) Q)
    (fin : ∀ e h, I m e h → Q (.nxt e h)) (z : I 0 e h) : Q (forL t b (.vals (rangeD j 1 m)) l ((rangeD j 1 m).length + 1) 0 e h) :=
  for_vals I (fun i e h d hi q z => by
    rw [rangeD_len] at hi
    rw [rangeD_get hi] at q
    cases q
    exact step i e h hi z) (fun e h z => by rw [rangeD_len] at z; exact fin e h z) z
/-- a fold: each turn ends well -/
theorem gc_max {l : Nat} {e : Env} (q : h.cs.length ≤ l) : h.gc l e = h := by
  unfold PH.gc
  exact cut_ge (by omega)
end
end Dy

/-! The draws of all laws: _law_begin, _law_take. -/
namespace Dy
open PySem PySem.Spec PyProof.Rows L2
def s_take : SM := seqS (ifS (andT (tbT (b2E eqF (b2E ixF (vE 0) (cE (.int 2))) (cE (.int 0)))) (tbT (b2E ltF (b2E ixF (vE 0) (cE (.int 1))) (nA (f1 lenF) (consA (b2E ixF (vE 0) (cE (.int 0))) (nilA)))))) (seqS (sixS (nA (f1 absF) (consA (nA (f1 intF) (consA (b2E ixF (b2E ixF (vE 0) (cE (.int 0))) (b2E ixF (vE 0) (cE (.int 1)))) (nilA))) (nilA))) (vE 0) (cE (.int 2))) (seqS (sixS (b2E addF (b2E ixF (vE 0) (cE (.int 1))) (cE (.int 1))) (vE 0) (cE (.int 1))) (seqS (ifS (tbT (b2E ltF (b2E ixF (vE 0) (cE (.int 2))) (b2E powF (cE (.int 10)) (cE (.int 18))))) (seqS (asgS (nA (f1 intF) (consA (b2E ixF (vE 0) (cE (.int 2))) (nilA))) (.one 2)) (seqS (sixS (cE (.int 0)) (vE 0) (cE (.int 2))) (seqS (retS (b2E modF (vE 2) (vE 1))) (nextS)))) (nextS)) (nextS)))) (nextS)) (seqS (ifS (tbT (b2E gtF (b2E ixF (vE 0) (cE (.int 2))) (cE (.int 0)))) (seqS (asgS (b2E modF (nA (f1 intF) (consA (b2E ixF (vE 0) (cE (.int 2))) (nilA))) (vE 1)) (.one 3)) (seqS (sixS (b2E fdivF (nA (f1 intF) (consA (b2E ixF (vE 0) (cE (.int 2))) (nilA))) (vE 1)) (vE 0) (cE (.int 2))) (seqS (retS (vE 3)) (nextS)))) (nextS)) (seqS (sixS (b2E modF (nA (f1 intF) (consA (b2E addF (b2E mulF (b2E ixF (vE 0) (cE (.int 3))) (cE (.int 48271))) (cE (.int 11))) (nilA))) (cE (.int 2147483647))) (vE 0) (cE (.int 3))) (seqS (retS (b2E modF (nA (f1 intF) (consA (b2E fdivF (b2E ixF (vE 0) (cE (.int 3))) (cE (.int 3))) (nilA))) (vE 1))) (nextS))))
def b_begin : SM := seqS (asgS (b2E modF (b2E addF (b2E addF (b2E mulF (vE 1) (cE (.int 69621))) (b2E modF (nA (f1 intF) (consA (vE 2) (nilA))) (cE (.int 2147483629)))) (cE (.int 7))) (cE (.int 2147483647))) (.one 1)) (nextS)
def s_begin : SM := seqS (asgS (cE (.int 1)) (.one 1)) (seqS (forS (srcE (vE 0)) (.one 2) b_begin) (seqS (retS (nA lstF (consA (nA (f1 listF) (consA (vE 0) (nilA))) (consA (cE (.int 0)) (consA (cE (.int 0)) (consA (vE 1) (nilA))))))) (nextS)))
def f_take : Fn := runF s_take 2 4
def f_begin : Fn := runF s_begin 1 3
/-- the draws' state: the script, the place, the number that digits are taken of, the seed -/
structure Dst where
  sc : List Int
  a : Int
  b : Int
  s : Int
  ha : 0 ≤ a
  hb : 0 ≤ b
  s0 : 0 ≤ s
  s1 : s < 2147483647
def dh (q : Dst) (r : List Cell) : PH := ⟨.lst (q.sc.map .int) :: .lst [.ref 0, .int q.a, .int q.b, .int q.s] :: r, 0⟩
@[simp] theorem dh_len {q : Dst} {r : List Cell} : (dh q r).cs.length = r.length + 2 := rfl
@[simp] theorem dh_lim {q : Dst} {r : List Cell} : (dh q r).lim = 0 := rfl
@[simp] theorem dh_cs {q : Dst} {r : List Cell} {n : Nat} : (dh q r).at (n + 2) = r[n]? := rfl
@[simp] theorem decT {p : Prop} [Decidable p] (h : p) : decide p = true := decide_eq_true h
theorem take_ex (q : Dst) (m : Int) (hm : 0 < m) (hz : sm m) : ∃ (r : Int) (q' : Dst), 0 ≤ r ∧ r < m ∧ ∀ rest, f_take [.ref 1, .int m] (dh q rest) = .ok (.int r) (dh q' rest) := by
  obtain ⟨sc, a, b, s, ha, hb, s0, s1⟩ := q
  by_cases c1 : b = 0 ∧ a < sc.length
  · obtain ⟨rfl, c1⟩ := c1
    obtain ⟨i, rfl⟩ := Int.eq_ofNat_of_zero_le ha
    have hi : i < sc.length := by omega
    have e0 : (sc.map D.int)[i]? = some (.int sc[i]) := by rw [List.getElem?_map, List.getElem?_eq_getElem hi]; rfl
    obtain ⟨n, hn, n0⟩ : ∃ n : Int, (if sc[i] < 0 then -sc[i] else sc[i]) = n ∧ 0 ≤ n := ⟨_, rfl, by split <;> omega⟩
    have i1 : (0 : Int) ≤ i + 1 := by omega
    by_cases c2 : n < 1000000000000000000
    · refine ⟨n % m, ⟨sc, i + 1, 0, s, i1, by omega, s0, s1⟩, Int.emod_nonneg _ (by omega), Int.emod_lt_of_pos _ hm, fun rest => ?_⟩
      unfold f_take s_take dh
      simp [hm, hz, hi, e0, atI_nat, Cell.mr, mrL, D.mr, hn, c2, PH.cut]
    · have n1 : 0 < n := by omega
      refine ⟨n % m, ⟨sc, i + 1, n / m, s, i1, Int.ediv_nonneg n0 (by omega), s0, s1⟩, Int.emod_nonneg _ (by omega), Int.emod_lt_of_pos _ hm, fun rest => ?_⟩
      unfold f_take s_take dh
      simp [hm, hz, hi, e0, atI_nat, Cell.mr, mrL, D.mr, hn, c2, n1, PH.cut]
  · by_cases c2 : 0 < b
    · refine ⟨b % m, ⟨sc, a, b / m, s, ha, Int.ediv_nonneg hb (by omega), s0, s1⟩, Int.emod_nonneg _ (by omega), Int.emod_lt_of_pos _ hm, fun rest => ?_⟩
      have c3 : ¬ b = 0 := by omega
      unfold f_take s_take dh
      simp [hm, hz, Cell.mr, mrL, D.mr, c2, c3, PH.cut]
    · have c3 : b = 0 := by omega
      subst c3
      have c4 : ¬ a < sc.length := fun z => c1 ⟨rfl, z⟩
      have z1 : sm s := sm_lt (by omega) (by omega)
      refine ⟨(s * 48271 + 11) % 2147483647 / 3 % m, ⟨sc, a, 0, (s * 48271 + 11) % 2147483647, ha, by omega, Int.emod_nonneg _ (by omega), Int.emod_lt_of_pos _ (by omega)⟩, Int.emod_nonneg _ (by omega), Int.emod_lt_of_pos _ hm, fun rest => ?_⟩
      unfold f_take s_take dh
      simp [hm, hz, Cell.mr, mrL, D.mr, c4, z1, PH.cut]
open Classical in
noncomputable def takeV (q : Dst) (m : Int) : Int := if z : 0 < m ∧ sm m then (take_ex q m z.1 z.2).choose else 0
open Classical in
noncomputable def takeQ (q : Dst) (m : Int) : Dst := if z : 0 < m ∧ sm m then (take_ex q m z.1 z.2).choose_spec.choose else q
@[simp] theorem take_ap {q : Dst} {m : Int} {rest : List Cell} (hm : 0 < m) (hz : sm m) : f_take [.ref 1, .int m] (dh q rest) = .ok (.int (takeV q m)) (dh (takeQ q m) rest) := by
  unfold takeV takeQ
  rw [dif_pos ⟨hm, hz⟩, dif_pos ⟨hm, hz⟩]
  exact (take_ex q m hm hz).choose_spec.choose_spec.2.2 rest
theorem takeV_0 {q : Dst} {m : Int} : 0 ≤ takeV q m := by
  unfold takeV
  split
  · rename_i z; exact (take_ex q m z.1 z.2).choose_spec.choose_spec.1
  · exact Int.le_refl _
theorem takeV_lt {q : Dst} {m : Int} (hm : 0 < m) (hz : sm m) : takeV q m < m := by
  unfold takeV
  rw [dif_pos ⟨hm, hz⟩]
  exact (take_ex q m hm hz).choose_spec.choose_spec.2.1
theorem begin_ex (sc : List Int) : ∃ q : Dst, f_begin [.frl (sc.map .int)] ⟨[], 0⟩ = .ok (.ref 1) (dh q []) := by
  have loop : ∀ (f i : Nat) (s : Int) (r : Option D), i + f = sc.length + 1 → 0 ≤ s → s < 2147483647 → ∃ s' r', 0 ≤ s' ∧ s' < 2147483647 ∧
      forL (.one 2) b_begin (.vals (sc.map D.int)) 0 f i [some (.frl (sc.map .int)), some (.int s), r] ⟨[], 0⟩ = .nxt [some (.frl (sc.map .int)), some (.int s'), r'] ⟨[], 0⟩ ∨ sc.length < i := by
    intro f
    induction f with
    | zero => intro i s r q h0 h1; exact ⟨0, r, .inr (by omega)⟩
    | succ f ih =>
      intro i s r q h0 h1
      by_cases hi : i < sc.length
      · have e0 : (sc.map D.int)[i]? = some (.int sc[i]) := by rw [List.getElem?_map, List.getElem?_eq_getElem hi]; rfl
        have z1 : sm s := sm_lt (by omega) (by omega)
        obtain ⟨s', r', z⟩ := ih (i + 1) ((s * 69621 + sc[i] % 2147483629 + 7) % 2147483647) (some (.int sc[i])) (by omega) (Int.emod_nonneg _ (by omega)) (Int.emod_lt_of_pos _ (by omega))
        rcases z with ⟨a1, a2, z⟩ | z
        · refine ⟨s', r', .inl ⟨a1, a2, ?_⟩⟩
          rw [forL_go (d := .int sc[i]) (by rw [item_vals, e0]) rfl]
          have : b_begin [some (D.frl (sc.map .int)), some (.int s), some (.int sc[i])] ⟨[], 0⟩ = .nxt [some (.frl (sc.map .int)), some (.int ((s * 69621 + sc[i] % 2147483629 + 7) % 2147483647)), some (.int sc[i])] ⟨[], 0⟩ := by
            unfold b_begin
            simp [z1]
          show (b_begin [some (D.frl (sc.map .int)), some (.int s), some (.int sc[i])] ⟨[], 0⟩).next _ _ _ _ _ _ = _
          rw [this, next_nxt, gc_max (Nat.zero_le _)]
          exact z
        · omega
      · have e0 : (sc.map D.int)[i]? = none := by rw [List.getElem?_eq_none]; rw [List.length_map]; omega
        refine ⟨s, r, .inl ⟨h0, h1, ?_⟩⟩
        rw [forL_end (by rw [item_vals, e0])]
  obtain ⟨s', r', z⟩ := loop (sc.length + 1) 0 1 none (by omega) (by omega) (by omega)
  rcases z with ⟨a1, a2, z⟩ | z
  · refine ⟨⟨sc, 0, 0, s', by omega, by omega, a1, a2⟩, ?_⟩
    unfold f_begin s_begin dh
    simp [z, PH.cut, D.mr, lp_ok]
  · omega
noncomputable def beginQ (sc : List Int) : Dst := (begin_ex sc).choose
@[simp] theorem begin_ap {sc : List Int} : f_begin [.frl (sc.map .int)] ⟨[], 0⟩ = .ok (.ref 1) (dh (beginQ sc) []) := (begin_ex sc).choose_spec
end Dy

/-! Loops and comprehensions over given values, as recursions on the list. -/
namespace Dy
open PySem PySem.Spec PyProof.Rows L2
section
variable {e e1 : Env} {h h1 : PH} {b : SM} {c : Str} {d : D} {ds xs : List D} {t : Tgt} {l n i : Nat}
def forV (t : Tgt) (b : SM) (l : Nat) : List D → Env → PH → Out
  | [], e, h => .nxt e h
  | d :: ds, e, h => match tgt t d e h with
    | none => .stuck
    | some e1 => (match b e1 h with
      | .nxt e2 h2 => forV t b l ds e2 (h2.gc l e2)
      | .cnt e2 h2 => forV t b l ds e2 (h2.gc l e2)
      | .brk e2 h2 => .nxt e2 h2
      | .ret d h2 => .ret d h2
      | .exc c e2 h2 => .exc c e2 h2
      | .stuck => .stuck)
def Out.nextV (o : Out) (t : Tgt) (b : SM) (l : Nat) (ds : List D) : Out := match o with
  | .nxt e2 h2 => forV t b l ds e2 (h2.gc l e2)
  | .cnt e2 h2 => forV t b l ds e2 (h2.gc l e2)
  | .brk e2 h2 => .nxt e2 h2
  | .ret d h2 => .ret d h2
  | .exc c e2 h2 => .exc c e2 h2
  | .stuck => .stuck
def tgtO (o : Option Env) (b : SM) (h : PH) : Out := match o with
  | some e1 => b e1 h
  | none => .stuck
@[simp] theorem tgtO_some : tgtO (some e) b h = b e h := rfl
@[simp] theorem forV_nil : forV t b l [] e h = .nxt e h := rfl
@[simp] theorem forV_cons : forV t b l (d :: ds) e h = (tgtO (tgt t d e h) b h).nextV t b l ds := by
  rw [forV]
  cases tgt t d e h with
  | none => rfl
  | some e1 =>
    rw [tgtO_some]
    unfold Out.nextV
    cases q : b e1 h <;> simp only [q]
@[simp] theorem nextV_nxt : (Out.nxt e h).nextV t b l ds = forV t b l ds e (h.gc l e) := rfl
@[simp] theorem nextV_cnt : (Out.cnt e h).nextV t b l ds = forV t b l ds e (h.gc l e) := rfl
@[simp] theorem nextV_brk : (Out.brk e h).nextV t b l ds = .nxt e h := rfl
@[simp] theorem nextV_ret : (Out.ret d h).nextV t b l ds = .ret d h := rfl
@[simp] theorem nextV_exc : (Out.exc c e h).nextV t b l ds = .exc c e h := rfl
theorem forL_forV : ∀ (f i : Nat) (e : Env) (h : PH), i + f = xs.length + 1 → i ≤ xs.length → forL t b (.vals xs) l f i e h = forV t b l (xs.drop i) e h := by
  intro f
  induction f with
  | zero => intro i e h q z; omega
  | succ f ih =>
    intro i e h q z
    by_cases hi : i < xs.length
    · have e0 : xs[i]? = some xs[i] := List.getElem?_eq_getElem hi
      rw [List.drop_eq_getElem_cons hi, forV_cons]
      cases q' : tgt t xs[i] e h with
      | none =>
        rw [forL, item_vals, e0]
        simp only [q']
        rfl
      | some e1 =>
        rw [forL_go (by rw [item_vals, e0]) q']
        show Out.next (b e1 h) _ _ _ _ _ _ = Out.nextV (b e1 h) _ _ _ _
        unfold Out.next Out.nextV
        cases b e1 h with
        | nxt e2 h2 => exact ih _ _ _ (by omega) (by omega)
        | cnt e2 h2 => exact ih _ _ _ (by omega) (by omega)
        | _ => rfl
    · have ei : i = xs.length := by omega
      subst ei
      rw [forL_end (by rw [item_vals, List.getElem?_eq_none (by omega)]), List.drop_eq_nil_of_le (Nat.le_refl _)]; rfl
@[simp] theorem lp_vals : (Res.ok (.vals ds) h).lp t b e = forV t b h.cs.length ds e h := by
  rw [lp_ok, forL_forV _ _ _ _ (by omega) (by omega)]; rfl
/-- over the items of a list that the turns leave as it is -/
theorem lp_cell : (Res.ok (.cell n) h).lp t b e = forL t b (.cell n) h.cs.length ((Src.cell n).fuel h) 0 e h := rfl
theorem rangeD_nil {j k : Int} : rangeD j k 0 = [] := rfl
theorem rangeD_cons {j k : Int} : rangeD j k (n + 1) = .int j :: rangeD (j + k) k n := by
  unfold rangeD
  rw [List.range_succ_eq_map, List.map_cons, List.map_map]
  congr 1
  · simp
  · apply List.map_congr_left
    intro a _
    show D.int (j + ((a + 1 : Nat) : Int) * k) = D.int (j + k + (a : Int) * k)
    congr 1
    rw [Int.natCast_add, Int.add_mul]
    simp
    omega
/-- what holds ahead of each turn -/
theorem forV_by {Q : Out → Prop} (I : List D → Env → PH → Prop)
    (step : ∀ d ds e h, I (d :: ds) e h → ∃ e1, tgt t d e h = some e1 ∧ Turn (b e1 h) (fun e2 h2 => I ds e2 (h2.gc l e2)) Q)
    (fin : ∀ e h, I [] e h → Q (.nxt e h)) : ∀ (ds : List D) (e : Env) (h : PH), I ds e h → Q (forV t b l ds e h) := by
  intro ds
  induction ds with
  | nil => intro e h z; exact fin e h z
  | cons d ds ih =>
    intro e h z
    obtain ⟨e1, h1, h2⟩ := step d ds e h z
    rw [forV_cons, h1, tgtO_some]
    unfold Turn at h2
    unfold Out.nextV
    cases q' : b e1 h with
    | nxt e2 h3 => rw [q'] at h2; exact ih _ _ h2
    | cnt e2 h3 => rw [q'] at h2; exact ih _ _ h2
    | brk e2 h3 => rw [q'] at h2; exact h2
    | ret d h3 => rw [q'] at h2; exact h2
    | exc c e2 h3 => rw [q'] at h2; exact h2
    | stuck => rw [q'] at h2; exact h2.elim
/-! ### comprehensions -/
variable {tst : TM} {elt : EM} {e0 : Env} {own : List Nat}
def compV (t : Tgt) (tst : TM) (elt : EM) (e0 : Env) : List D → PH → Res (List D)
  | [], h => .ok [] h
  | d :: ds, h => match tgt t d e0 h with
    | none => .stuck
    | some e1 => (tst e1 h).bind fun c h1 => match c with
        | true => (elt e1 h1).bind fun v h2 => (compV t tst elt e0 ds (h2.cut (max h.cs.length (max h2.lim v.mr)))).bind fun vs h3 => .ok (v :: vs) h3
        | false => compV t tst elt e0 ds (h1.cut (max h.cs.length h1.lim))
def tgtR (o : Option Env) (f : Env → Res (List D)) : Res (List D) := match o with
  | some e1 => f e1
  | none => .stuck
def Res.cp1 (r : Res Bool) (t : Tgt) (tst : TM) (elt : EM) (e0 e1 : Env) (n : Nat) (ds : List D) : Res (List D) := r.bind fun c h1 => match c with
  | true => (elt e1 h1).bind fun v h2 => (compV t tst elt e0 ds (h2.cut (max n (max h2.lim v.mr)))).bind fun vs h3 => .ok (v :: vs) h3
  | false => compV t tst elt e0 ds (h1.cut (max n h1.lim))
def Res.cp2 (r : Res D) (t : Tgt) (tst : TM) (elt : EM) (e0 : Env) (n : Nat) (ds : List D) : Res (List D) := r.bind fun v h2 => (compV t tst elt e0 ds (h2.cut (max n (max h2.lim v.mr)))).bind fun vs h3 => .ok (v :: vs) h3
def compT (o : Option Env) (t : Tgt) (tst : TM) (elt : EM) (e0 : Env) (h : PH) (ds : List D) : Res (List D) := match o with
  | none => .stuck
  | some e1 => (tst e1 h).cp1 t tst elt e0 e1 h.cs.length ds
@[simp] theorem compT_some : compT (some e1) t tst elt e0 h ds = (tst e1 h).cp1 t tst elt e0 e1 h.cs.length ds := rfl
@[simp] theorem compV_nil : compV t tst elt e0 [] h = .ok [] h := rfl
@[simp] theorem compV_cons : compV t tst elt e0 (d :: ds) h = compT (tgt t d e0 h) t tst elt e0 h ds := by
  rw [compV]; cases tgt t d e0 h <;> rfl
@[simp] theorem cp1_true : (Res.ok true h).cp1 t tst elt e0 e1 n ds = (elt e1 h).cp2 t tst elt e0 n ds := rfl
@[simp] theorem cp1_false : (Res.ok false h).cp1 t tst elt e0 e1 n ds = compV t tst elt e0 ds (h.cut (max n h.lim)) := rfl
@[simp] theorem cp2_ok : (Res.ok d h).cp2 t tst elt e0 n ds = (compV t tst elt e0 ds (h.cut (max n (max h.lim d.mr)))).c2 d := rfl
@[simp] theorem yesT_ap : yesT e h = .ok true h := rfl
theorem compL_compV : ∀ (f i : Nat) (h : PH), i + f = xs.length + 1 → i ≤ xs.length → compL t tst elt (.vals xs) e0 f i h = compV t tst elt e0 (xs.drop i) h := by
  intro f
  induction f with
  | zero => intro i h q z; omega
  | succ f ih =>
    intro i h q z
    by_cases hi : i < xs.length
    · have e9 : xs[i]? = some xs[i] := List.getElem?_eq_getElem hi
      rw [List.drop_eq_getElem_cons hi, compV, compL, item_vals, e9]
      have z1 : ∀ h, compL t tst elt (.vals xs) e0 f (i + 1) h = compV t tst elt e0 (xs.drop (i + 1)) h := fun h => ih _ h (by omega) (by omega)
      simp only [z1] <;> cases tgt t xs[i] e0 h <;> rfl
    · have ei : i = xs.length := by omega
      subst ei
      rw [compL, item_vals, List.getElem?_eq_none (by omega), List.drop_eq_nil_of_le (Nat.le_refl _)]; rfl
def Res.cm (r : Res Src) (own : List Nat) (t : Tgt) (tst : TM) (elt : EM) (e : Env) : Res D := r.bind fun s h1 => (noX (compL t tst elt s (wipeE e own) (s.fuel h1) 0 h1)).bind finL
@[simp] theorem compE_fr {m : IM} : compE m own t tst elt e h = (m e h).cm own t tst elt e := rfl
def Res.fl (r : Res (List D)) : Res D := (noX r).bind finL
@[simp] theorem cm_vals : (Res.ok (.vals ds) h).cm own t tst elt e = (compV t tst elt (wipeE e own) ds h).fl := by
  show (noX (compL t tst elt (.vals ds) (wipeE e own) (ds.length + 1) 0 h)).bind finL = _
  rw [compL_compV _ _ _ (by omega) (by omega)]; rfl
@[simp] theorem fl_ok (q : ds.length ≤ 16777216) : (Res.ok ds h).fl = .ok (.ref h.cs.length) (h.push (.lst ds)) := by
  show (if ds.length ≤ 16777216 then newL ds h else .stuck) = _
  rw [if_pos q]; rfl
@[simp] theorem wipeE_nil : wipeE e [] = e := rfl
@[simp] theorem wipeE_cons {v : Nat} {vs : List Nat} : wipeE e (v :: vs) = (wipeE e vs).set v none := rfl
theorem compV_map {p : D → Bool} {g : D → D} : ∀ {ds : List D}, (∀ d ∈ ds, ∃ e1, tgt t d e0 h = some e1 ∧ tst e1 h = .ok (p d) h ∧ (p d = true → elt e1 h = .ok (g d) h)) → compV t tst elt e0 ds h = .ok ((ds.filter p).map g) h := by
  intro ds
  induction ds with
  | nil => intro _; rfl
  | cons d ds ih =>
    intro H
    obtain ⟨e1, h1, h2, h3⟩ := H d List.mem_cons_self
    have r := ih fun d' hd => H d' (List.mem_cons_of_mem _ hd)
    rw [compV_cons, h1, compT_some, h2]
    cases q : p d with
    | true => rw [cp1_true, h3 q, cp2_ok, cut_max, r, List.filter_cons_of_pos q]; rfl
    | false => rw [cp1_false, cut_max, r, List.filter_cons_of_neg (by simp [q])]
/-- .. without a test -/
theorem compV_all {g : D → D} {ds : List D} (H : ∀ d ∈ ds, ∃ e1, tgt t d e0 h = some e1 ∧ elt e1 h = .ok (g d) h) : compV t yesT elt e0 ds h = .ok (ds.map g) h := by
  have z := compV_map (t := t) (tst := yesT) (elt := elt) (e0 := e0) (h := h) (p := fun _ => true) (g := g) (ds := ds) fun d hd => by
    obtain ⟨e1, h1, h2⟩ := H d hd
    exact ⟨e1, h1, rfl, fun _ => h2⟩
  rw [z, List.filter_eq_self.mpr (fun _ _ => rfl)]
end
end Dy

/-! Small helps. -/
namespace Dy
open PySem PySem.Spec PyProof.Rows L2
@[simp] theorem in62_lit {i : Int} (q : -4611686018427387904 < i) (z : i < 4611686018427387904) : in62 i = true := by
  exact Nat.ble_eq_true_of_le (by omega)
@[simp] theorem non_1 : isNonD .non = true := rfl
@[simp] theorem non_2 {i : Int} : isNonD (.int i) = false := rfl
@[simp] theorem non_3 {i : Bool} : isNonD (.bl i) = false := rfl
@[simp] theorem non_4 {i : Str} : isNonD (.str i) = false := rfl
@[simp] theorem non_5 {i : List D} : isNonD (.tup i) = false := rfl
@[simp] theorem non_6 {i : Nat} : isNonD (.ref i) = false := rfl
/-- what a statement ends in, asked -/
theorem ok_iff {r : Res D} {d : D} {h : PH} (q : r = .ok d h) : ∃ h, r = .ok d h := ⟨h, q⟩
@[simp] theorem mr_non : (D.non).mr = 0 := rfl
@[simp] theorem mr_int {i : Int} : (D.int i).mr = 0 := rfl
@[simp] theorem mr_bl {i : Bool} : (D.bl i).mr = 0 := rfl
@[simp] theorem mr_str {i : Str} : (D.str i).mr = 0 := rfl
@[simp] theorem mr_ref {i : Nat} : (D.ref i).mr = i + 1 := rfl
@[simp] theorem mr_tup {ds : List D} : (D.tup ds).mr = mrL ds := rfl
@[simp] theorem mr_frl {ds : List D} : (D.frl ds).mr = mrL ds := rfl
@[simp] theorem mrL_nil : mrL [] = 0 := rfl
@[simp] theorem mrL_cons {d : D} {ds : List D} : mrL (d :: ds) = max d.mr (mrL ds) := rfl
@[simp] theorem mr_lst {ds : List D} : (Cell.lst ds).mr = mrL ds := rfl
@[simp] theorem mrL_int {ns : List Int} : mrL (ns.map D.int) = 0 := mrL_ints ns
@[simp] theorem cut_self {h : PH} : h.cut h.cs.length = h := cut_ge (Nat.le_refl _)
@[simp] theorem isi1 {i : Int} {h : PH} : isiF (.int i) (.ty "int") h = .ok (.bl true) h := by
  show (if tyAsk.contains "int" = true then Res.ok (D.bl (isiB "int" "int")) h else .stuck) = _
  rw [if_pos (by decide +kernel), show isiB "int" "int" = true by decide +kernel]
@[simp] theorem isi2 {i : Int} {h : PH} : isiF (.int i) (.ty "bool") h = .ok (.bl false) h := by
  show (if tyAsk.contains "bool" = true then Res.ok (D.bl (isiB "int" "bool")) h else .stuck) = _
  rw [if_pos (by decide +kernel), show isiB "int" "bool" = false by decide +kernel]
@[simp] theorem isi3 {i : Bool} {h : PH} : isiF (.bl i) (.ty "bool") h = .ok (.bl true) h := by
  show (if tyAsk.contains "bool" = true then Res.ok (D.bl (isiB "bool" "bool")) h else .stuck) = _
  rw [if_pos (by decide +kernel), show isiB "bool" "bool" = true by decide +kernel]
@[simp] theorem isi4 {i : Bool} {h : PH} : isiF (.bl i) (.ty "int") h = .ok (.bl true) h := by
  show (if tyAsk.contains "int" = true then Res.ok (D.bl (isiB "bool" "int")) h else .stuck) = _
  rw [if_pos (by decide +kernel), show isiB "bool" "int" = true by decide +kernel]
@[simp] theorem isi5 {i : List D} {h : PH} : isiF (.tup i) (.ty "tuple") h = .ok (.bl true) h := by
  show (if tyAsk.contains "tuple" = true then Res.ok (D.bl (isiB "tuple" "tuple")) h else .stuck) = _
  rw [if_pos (by decide +kernel), show isiB "tuple" "tuple" = true by decide +kernel]
@[simp] theorem isi6 {i : Str} {h : PH} : isiF (.str i) (.ty "str") h = .ok (.bl true) h := by
  show (if tyAsk.contains "str" = true then Res.ok (D.bl (isiB "str" "str")) h else .stuck) = _
  rw [if_pos (by decide +kernel), show isiB "str" "str" = true by decide +kernel]
@[simp] theorem isi7 {i : Str} {h : PH} : isiF (.str i) (.ty "int") h = .ok (.bl false) h := by
  show (if tyAsk.contains "int" = true then Res.ok (D.bl (isiB "str" "int")) h else .stuck) = _
  rw [if_pos (by decide +kernel), show isiB "str" "int" = false by decide +kernel]
@[simp] theorem isi8 {h : PH} : isiF .non (.ty "int") h = .ok (.bl false) h := by
  show (if tyAsk.contains "int" = true then Res.ok (D.bl (isiB "NoneType" "int")) h else .stuck) = _
  rw [if_pos (by decide +kernel), show isiB "NoneType" "int" = false by decide +kernel]
@[simp] theorem isi9 {i : List D} {h : PH} : isiF (.tup i) (.ty "int") h = .ok (.bl false) h := by
  show (if tyAsk.contains "int" = true then Res.ok (D.bl (isiB "tuple" "int")) h else .stuck) = _
  rw [if_pos (by decide +kernel), show isiB "tuple" "int" = false by decide +kernel]
@[simp] theorem takeV_z {q : Dst} {m : Int} : 0 ≤ takeV q m := takeV_0
/-! ### the heap of a law -/
variable {q : Dst} {r : List Cell} {n : Nat} {c : Cell}
@[simp] theorem dh_push : (dh q r).push c = dh q (r ++ [c]) := rfl
@[simp] theorem dh_push' : (⟨(dh q r).cs ++ [c], 0⟩ : PH) = dh q (r ++ [c]) := rfl
theorem dh_put (z : c.mr ≤ n + 2) : (dh q r).put (n + 2) c = dh q (r.set n c) := by
  rw [put_le z]; rfl
@[simp] theorem dh_set : (⟨(dh q r).cs.set (n + 2) c, 0⟩ : PH) = dh q (r.set n c) := rfl
@[simp] theorem dh_cut {m : Nat} : (dh q r).cut (m + 2) = dh q (r.take m) := rfl
theorem dh_gc {m : Nat} {e : Env} (z : r.length ≤ m) : (dh q r).gc (m + 2) e = dh q r := gc_max (by rw [dh_len]; omega)
@[simp] theorem dh_gc2 {e : Env} : (dh q []).gc 2 e = dh q [] := gc_max (Nat.le_refl _)
@[simp] theorem dh_gc3 {e : Env} : (dh q [c]).gc 3 e = dh q [c] := gc_max (Nat.le_refl _)
@[simp] theorem dh_gc4 {e : Env} {c1 : Cell} : (dh q [c, c1]).gc 4 e = dh q [c, c1] := gc_max (Nat.le_refl _)
@[simp] theorem dh_gc5 {e : Env} {c1 c2 : Cell} : (dh q [c, c1, c2]).gc 5 e = dh q [c, c1, c2] := gc_max (Nat.le_refl _)
end Dy

/-! More steps: methods, slices, loops over cells, lists of numbers. -/
namespace Dy
open PySem PySem.Spec PyProof.Rows L2
section
variable {e e1 : Dy.Env} {h h1 : PH} {b : SM} {c : Str} {d : D} {ds xs : List D} {t : Tgt} {l n i : Nat} {s : Str} {k : Int}
/-! ### methods -/
def isLst (o : Option Cell) : Bool := match o with
  | some (.lst _) => true
  | _ => false
@[simp] theorem isLst_1 : isLst (some (.lst ds)) = true := rfl
theorem tyOk_ref : tyOk "list" h (.ref n) = isLst (h.at n) := by
  show (match h.cs[n]? with | some (.lst _) => ("list" : String) == "list" | _ => false) = _
  rw [PH.at_eq]
  unfold isLst
  cases h.cs[n]? with
  | none => rfl
  | some c => cases c <;> first | rfl | exact (by decide +kernel)
def Res.m1 (r : Res D) (T : String) (f : D → List D → PH → Res D) (a : AM) (e : Dy.Env) : Res D := r.bind fun x h1 => if tyOk T h1 x = true then (a e h1).bind fun xs h2 => f x xs h2 else .stuck
def Res.m2 (r : Res (List D)) (f : D → List D → PH → Res D) (d : D) : Res D := r.bind (f d)
@[simp] theorem mtE_fr {T : String} {f : D → List D → PH → Res D} {o : EM} {a : AM} : mtE T f o a e h = (o e h).m1 T f a e := rfl
@[simp] theorem m1_ref {f : D → List D → PH → Res D} {a : AM} : (Res.ok (.ref n) h).m1 "list" f a e = if isLst (h.at n) = true then (a e h).m2 f (.ref n) else .stuck := by
  rw [← tyOk_ref]; rfl
@[simp] theorem m1_str {f : D → List D → PH → Res D} {a : AM} : (Res.ok (.str s) h).m1 "str" f a e = (a e h).m2 f (.str s) := by
  have q : tyOk "str" h (.str s) = true := by show (("str" : String) == "str") = true; decide +kernel
  show (if tyOk "str" h (.str s) = true then (a e h).bind (fun xs h2 => f (.str s) xs h2) else .stuck) = _
  rw [if_pos q]; rfl
@[simp] theorem m2_ok {f : D → List D → PH → Res D} : (Res.ok ds h).m2 f d = f d ds h := rfl
@[simp] theorem revF_refO : revF (.ref n) h = withL (lstO (h.at n)) fun ds => .ok (.ref h.cs.length) (h.push (.lst ds.reverse)) := by
  unfold revF
  rw [itemsL_ref]
  cases lstO (h.at n) <;> rfl
@[simp] theorem slF_tup {lo hi : Option Int} : slF (.tup ds) lo hi h = .ok (.tup (cutD ds lo hi)) h := rfl
/-! ### numbers in lists -/
@[simp] theorem intsOf_map : ∀ ns : List Int, intsOf (ns.map D.int) = some ns
  | [] => rfl
  | n :: ns => by
    show (match intsOf (ns.map D.int) with | some l => some (n :: l) | none => none) = _
    rw [intsOf_map ns]
theorem ltF_ints {ns ms : List Int} : ltF (.tup (ns.map .int)) (.tup (ms.map .int)) h = .ok (.bl (HT.lexLt ns ms)) h := by
  show (match intsOf (ns.map D.int), intsOf (ms.map D.int) with | some ns, some ms => Res.ok (D.bl (HT.lexLt ns ms)) h | _, _ => .stuck) = _
  rw [intsOf_map, intsOf_map]
theorem lex_app {a b : List Int} {x y : Int} (q : a.length = b.length) : HT.lexLt (a ++ [x]) (b ++ [y]) = (HT.lexLt a b || (decide (a = b) && decide (x < y))) := by
  induction a generalizing b with
  | nil =>
    cases b with
    | nil =>
      show (if x = y then HT.lexLt [] [] else decide (x < y)) = _
      split
      · rename_i z; subst z; simp [HT.lexLt]
      · simp [HT.lexLt]
    | cons _ _ => cases q
  | cons u a ih =>
    cases b with
    | nil => cases q
    | cons v b =>
      have := ih (b := b) (by simpa using q)
      show (if u = v then HT.lexLt (a ++ [x]) (b ++ [y]) else decide (u < v)) = ((if u = v then HT.lexLt a b else decide (u < v)) || _)
      by_cases z : u = v
      · subst z; simp [this]
      · simp [z]
/-! ### loops over the items of any source -/
theorem forL_fold {sr : Src} {I : Nat → Dy.Env → Prop} (n : Nat)
    (step : ∀ i e, i < n → I i e → ∃ d e1 e2, sr.item i h = some (some d) ∧ tgt t d e h = some e1 ∧ b e1 h = .nxt e2 h ∧ I (i + 1) e2) (fin : sr.item n h = some none) (hl : h.cs.length ≤ l) (z : I 0 e) : ∃ e', forL t b sr l (n + 1) 0 e h = .nxt e' h ∧ I n e' := by
  refine forL_by (n := n) (Q := fun o => ∃ e', o = .nxt e' h ∧ I n e') (fun i e h' => h' = h ∧ I i e) (fun i e h' hi ⟨e0, z⟩ => ?_) (fun e h' ⟨e0, z⟩ => ?_) _ _ _ _ (by omega) (Nat.zero_le _) ⟨rfl, z⟩
  · subst e0
    obtain ⟨d, e1, e2, h1, h2, h3, h4⟩ := step i e hi z
    refine ⟨d, e1, h1, h2, ?_⟩
    rw [h3]
    exact ⟨gc_max hl, h4⟩
  · subst e0
    exact ⟨fin, e, rfl, z⟩
/-- .. values -/
theorem forV_fold {I : Nat → Dy.Env → Prop} (hl : h.cs.length ≤ l) (step : ∀ i e d, xs[i]? = some d → I i e → ∃ e1 e2, tgt t d e h = some e1 ∧ b e1 h = .nxt e2 h ∧ I (i + 1) e2) (z : I 0 e) : ∃ e', forV t b l xs e h = .nxt e' h ∧ I xs.length e' := by
  have w := forL_fold (t := t) (b := b) (sr := .vals xs) (I := I) (h := h) (e := e) (l := l) xs.length (fun i e hi z => by
    have e0 : xs[i]? = some xs[i] := List.getElem?_eq_getElem hi
    obtain ⟨e1, e2, h1, h2, h3⟩ := step i e _ e0 z
    exact ⟨_, e1, e2, by rw [item_vals, e0], h1, h2, h3⟩) (by rw [item_vals, List.getElem?_eq_none (by omega)]) hl z
  rw [forL_forV _ _ _ _ (by omega) (by omega)] at w
  exact w
/-- .. a cell's items, which the turns leave as they are -/
theorem lp_cellO : (Res.ok (.ref n) h).bind srcF = withL (α := Src) (lstO (h.at n)) (fun _ => .ok (.cell n) h) := by
  show (match h.cs[n]? with | some (.lst _) => Res.ok (Src.cell n) h | _ => .stuck) = _
  rw [PH.at_eq]
  cases e : h.cs[n]? with
  | none => rfl
  | some c => cases c <;> rfl
@[simp] theorem srcF_ref : srcF (.ref n) h = withL (α := Src) (lstO (h.at n)) (fun _ => .ok (.cell n) h) := lp_cellO
theorem lp_cell_fold {I : Nat → Dy.Env → Prop} (hc : h.at n = some (.lst xs)) (step : ∀ i e d, xs[i]? = some d → I i e → ∃ e1 e2, tgt t d e h = some e1 ∧ b e1 h = .nxt e2 h ∧ I (i + 1) e2) (z : I 0 e) : ∃ e', (Res.ok (.cell n) h).lp t b e = .nxt e' h ∧ I xs.length e' := by
  rw [PH.at_eq] at hc
  have f : (Src.cell n).fuel h = xs.length + 1 := by
    show (match h.cs[n]? with | some (.lst ds) => ds.length + 1 | _ => 0) = _
    rw [hc]
  have w := forL_fold (t := t) (b := b) (sr := .cell n) (I := I) (h := h) (e := e) (l := h.cs.length) xs.length (fun i e hi z => by
    have e0 : xs[i]? = some xs[i] := List.getElem?_eq_getElem hi
    obtain ⟨e1, e2, h1, h2, h3⟩ := step i e _ e0 z
    exact ⟨_, e1, e2, by rw [item_cell hc, e0], h1, h2, h3⟩) (by rw [item_cell hc, List.getElem?_eq_none (by omega)]) (Nat.le_refl _) z
  rw [lp_cell, f]
  exact w
theorem draw (q : Dst) (m : Int) (h1 : 0 < m) (h2 : m < 1000000) : ∃ r q', takeV q m = r ∧ takeQ q m = q' ∧ 0 ≤ r ∧ r < m := ⟨_, _, rfl, rfl, takeV_0, takeV_lt h1 (sm_lt (by omega) (by omega))⟩
end
end Dy

namespace Lk42
open PySem PySem.Spec PyProof.Rows L2 Dy
def top (i : Nat) : Stmt := PySem.Challenge.pw_tensorcompiler_k42_lives_of_buffers.main.body.getD i (.Pass ⟨0, 0, 0, 0⟩)
def tb : Tb := { con := [], free := ["range", "len", "isinstance", "bool", "tuple", "int", "abs", "max", "min", "any", "list"], exc := [], sub := [], gcd := [], subT := [] }
def gl : List Str := ["meet", "_law_take", "statements_in", "expressions_in", "buffers_in", "lives", "_law_in_expr", "_law_in", "_law_signed", "_law_point_info", "_law_form", "_law_test", "_law_expr", "_law_copy", "_law_statement", "_law_body", "_law_program", "_law_begin", "law"]
def fn : List He.DefD := [dD "meet" (top 6), dD "_law_take" (top 9), dD "statements_in" (top 2), dD "expressions_in" (top 1), dD "buffers_in" (top 4), dD "lives" (top 5), dD "_law_in_expr" (top 19), dD "_law_in" (top 20), dD "_law_signed" (top 10), dD "_law_point_info" (top 13), dD "_law_form" (top 11), dD "_law_test" (top 12), dD "_law_expr" (top 14), dD "_law_copy" (top 15), dD "_law_statement" (top 16), dD "_law_body" (top 17), dD "_law_program" (top 18), dD "_law_begin" (top 8), dD "law" (top 21)]
/-! ### the defs -/
-- meet: 0 one, 1 other
def s_meet : SM := seqS (retS (andE (b2E leF (b2E ixF (vE 0) (cE (.int 0))) (b2E ixF (vE 1) (cE (.int 1)))) (b2E leF (b2E ixF (vE 1) (cE (.int 0))) (b2E ixF (vE 0) (cE (.int 1)))))) (nextS)
def f_meet : Fn := runF s_meet 2 2
abbrev s__law_take : SM := s_take
abbrev f__law_take : Fn := f_take
-- statements_in: 0 body, 1 found, 2 statement
def b_statements_in_0 (r_statements_in : Fn) : SM := seqS (exprS (mtE "list" appF (vE 1) (consA (vE 2) (nilA)))) (seqS (ifS (tbT (b2E inF (b2E ixF (vE 2) (cE (.int 0))) (nA tupF (consA (cE (.str "loop")) (consA (cE (.str "when")) (nilA)))))) (seqS (asgS (b2E addF (vE 1) (nA (callF 1 r_statements_in) (consA (b2E ixF (vE 2) (u1E negF (cE (.int 1)))) (nilA)))) (.one 1)) (nextS)) (nextS)) (nextS))
def s_statements_in (r_statements_in : Fn) : SM := seqS (asgS (nA lstF (nilA)) (.one 1)) (seqS (forS (srcE (vE 0)) (.one 2) (b_statements_in_0 r_statements_in)) (seqS (retS (vE 1)) (nextS)))
def f_statements_in : Nat → Fn
  | 0 => noneF
  | k + 1 => runF (s_statements_in (f_statements_in k)) 1 3
-- expressions_in: 0 expr, 1 found, 2 kid
def b_expressions_in_0 (r_expressions_in : Fn) : SM := seqS (asgS (b2E addF (vE 1) (nA (callF 1 r_expressions_in) (consA (vE 2) (nilA)))) (.one 1)) (nextS)
def s_expressions_in (r_expressions_in : Fn) : SM := seqS (asgS (nA lstF (consA (vE 0) (nilA))) (.one 1)) (seqS (ifS (tbT (b2E eqF (b2E ixF (vE 0) (cE (.int 0))) (cE (.str "pick")))) (seqS (asgS (b2E addF (vE 1) (nA (callF 1 r_expressions_in) (consA (b2E ixF (vE 0) (cE (.int 5))) (nilA)))) (.one 1)) (nextS)) (seqS (ifS (tbT (b2E eqF (b2E ixF (vE 0) (cE (.int 0))) (cE (.str "apply")))) (seqS (forS (srcE (b2E ixF (vE 0) (cE (.int 2)))) (.one 2) (b_expressions_in_0 r_expressions_in)) (nextS)) (seqS (ifS (tbT (b2E eqF (b2E ixF (vE 0) (cE (.int 0))) (cE (.str "guard")))) (seqS (asgS (b2E addF (b2E addF (vE 1) (nA (callF 1 r_expressions_in) (consA (b2E ixF (vE 0) (cE (.int 2))) (nilA)))) (nA (callF 1 r_expressions_in) (consA (b2E ixF (vE 0) (cE (.int 3))) (nilA)))) (.one 1)) (nextS)) (nextS)) (nextS))) (nextS))) (seqS (retS (vE 1)) (nextS)))
def f_expressions_in : Nat → Fn
  | 0 => noneF
  | k + 1 => runF (s_expressions_in (f_expressions_in k)) 1 3
-- buffers_in: 0 statement, 1 found, 2 inner, 3 e
def e_buffers_in_1 : EM := b2E ixF (vE 3) (cE (.int 1))
def t_buffers_in_1 : TM := tbT (b2E inF (b2E ixF (vE 3) (cE (.int 0))) (nA tupF (consA (cE (.str "load")) (consA (cE (.str "pick")) (nilA)))))
def b_buffers_in_0 : SM := seqS (ifS (tbT (b2E eqF (b2E ixF (vE 2) (cE (.int 0))) (cE (.str "put")))) (seqS (exprS (mtE "list" appF (vE 1) (consA (b2E ixF (vE 2) (cE (.int 1))) (nilA)))) (seqS (asgS (b2E addF (vE 1) (compE (srcE (nA (callF 1 (f_expressions_in 12)) (consA (b2E ixF (vE 2) (cE (.int 3))) (nilA)))) [3] (.one 3) t_buffers_in_1 e_buffers_in_1)) (.one 1)) (nextS))) (seqS (ifS (tbT (b2E eqF (b2E ixF (vE 2) (cE (.int 0))) (cE (.str "copy")))) (seqS (asgS (b2E addF (vE 1) (nA lstF (consA (b2E ixF (vE 2) (cE (.int 1))) (consA (b2E ixF (vE 2) (cE (.int 3))) (nilA))))) (.one 1)) (nextS)) (nextS)) (nextS))) (nextS)
def s_buffers_in : SM := seqS (asgS (nA lstF (nilA)) (.one 1)) (seqS (forS (srcE (nA (callF 1 (f_statements_in 12)) (consA (nA tupF (consA (vE 0) (nilA))) (nilA)))) (.one 2) b_buffers_in_0) (seqS (retS (vE 1)) (nextS)))
def f_buffers_in : Fn := runF s_buffers_in 1 4
-- lives: 0 program, 1 outs, 2 buffers, 3 body, 4 rows, 5 result, 6 k, 7 used, 8 first, 9 last, 10 statement, 11 t
def e_lives_1 : EM := vE 11
def t_lives_1 : TM := tbT (b2E inF (vE 6) (b2E ixF (vE 4) (vE 11)))
def b_lives_0 : SM := seqS (ifS (tbT (b2E eqF (b2E ixF (b2E ixF (vE 2) (vE 6)) (cE (.int 0))) (cE (.str "main")))) (seqS (asgS (compE (rngE rangeF1 (consA (nA (f1 lenF) (consA (vE 3) (nilA))) (nilA))) [11] (.one 11) t_lives_1 e_lives_1) (.one 7)) (seqS (asgS (ifE (tbT (b2E gtF (nA (f1 lenF) (consA (vE 7) (nilA))) (cE (.int 0)))) (nA (f1 min1F) (consA (b2E addF (vE 7) (nA lstF (consA (nA (f1 lenF) (consA (vE 3) (nilA))) (nilA)))) (nilA))) (cE (.int 0))) (.one 8)) (seqS (asgS (nA (f1 max1F) (consA (b2E addF (nA lstF (consA (cE (.int 0)) (nilA))) (vE 7)) (nilA))) (.one 9)) (seqS (ifS (tbT (b2E inF (vE 6) (vE 1))) (seqS (asgS (nA (f1 lenF) (consA (vE 3) (nilA))) (.one 9)) (nextS)) (nextS)) (seqS (exprS (mtE "list" appF (vE 5) (consA (nA tupF (consA (vE 8) (consA (vE 9) (nilA)))) (nilA)))) (nextS)))))) (nextS)) (nextS)
def e_lives_2 : EM := nA (callF 1 f_buffers_in) (consA (vE 10) (nilA))
def s_lives : SM := seqS (asgS (vE 0) (.many [2, 3])) (seqS (asgS (compE (srcE (vE 3)) [10] (.one 10) yesT e_lives_2) (.one 4)) (seqS (asgS (nA lstF (nilA)) (.one 5)) (seqS (forS (rngE rangeF1 (consA (nA (f1 lenF) (consA (vE 2) (nilA))) (nilA))) (.one 6) b_lives_0) (seqS (retS (nA (f1 tupleF) (consA (vE 5) (nilA)))) (nextS)))))
def f_lives : Fn := runF s_lives 2 12
-- _law_in_expr: 0 expr, 1 k, 2 kid
def e__law_in_expr_0 (r__law_in_expr : Fn) : EM := nA (callF 2 r__law_in_expr) (consA (vE 2) (consA (vE 1) (nilA)))
def s__law_in_expr (r__law_in_expr : Fn) : SM := seqS (ifS (tbT (b2E eqF (b2E ixF (vE 0) (cE (.int 0))) (cE (.str "load")))) (seqS (retS (b2E eqF (b2E ixF (vE 0) (cE (.int 1))) (vE 1))) (nextS)) (nextS)) (seqS (ifS (tbT (b2E eqF (b2E ixF (vE 0) (cE (.int 0))) (cE (.str "pick")))) (seqS (retS (orE (b2E eqF (b2E ixF (vE 0) (cE (.int 1))) (vE 1)) (nA (callF 2 r__law_in_expr) (consA (b2E ixF (vE 0) (cE (.int 5))) (consA (vE 1) (nilA)))))) (nextS)) (nextS)) (seqS (ifS (tbT (b2E eqF (b2E ixF (vE 0) (cE (.int 0))) (cE (.str "guard")))) (seqS (retS (orE (nA (callF 2 r__law_in_expr) (consA (b2E ixF (vE 0) (cE (.int 2))) (consA (vE 1) (nilA)))) (nA (callF 2 r__law_in_expr) (consA (b2E ixF (vE 0) (cE (.int 3))) (consA (vE 1) (nilA)))))) (nextS)) (nextS)) (seqS (retS (ifE (tbT (b2E eqF (b2E ixF (vE 0) (cE (.int 0))) (cE (.str "apply")))) (nA (f1 anyF) (consA (compE (srcE (b2E ixF (vE 0) (cE (.int 2)))) [2] (.one 2) yesT (e__law_in_expr_0 r__law_in_expr)) (nilA))) (cE (.bl false)))) (nextS))))
def f__law_in_expr : Nat → Fn
  | 0 => noneF
  | k + 1 => runF (s__law_in_expr (f__law_in_expr k)) 2 3
-- _law_in: 0 s, 1 k, 2 one
def e__law_in_0 (r__law_in : Fn) : EM := nA (callF 2 r__law_in) (consA (vE 2) (consA (vE 1) (nilA)))
def s__law_in (r__law_in : Fn) : SM := seqS (ifS (tbT (b2E inF (b2E ixF (vE 0) (cE (.int 0))) (nA tupF (consA (cE (.str "loop")) (consA (cE (.str "when")) (nilA)))))) (seqS (retS (nA (f1 anyF) (consA (compE (srcE (b2E ixF (vE 0) (u1E negF (cE (.int 1))))) [2] (.one 2) yesT (e__law_in_0 r__law_in)) (nilA)))) (nextS)) (nextS)) (seqS (ifS (tbT (b2E eqF (b2E ixF (vE 0) (cE (.int 0))) (cE (.str "copy")))) (seqS (retS (orE (b2E eqF (b2E ixF (vE 0) (cE (.int 1))) (vE 1)) (b2E eqF (b2E ixF (vE 0) (cE (.int 3))) (vE 1)))) (nextS)) (nextS)) (seqS (retS (orE (b2E eqF (b2E ixF (vE 0) (cE (.int 1))) (vE 1)) (nA (callF 2 (f__law_in_expr 12)) (consA (b2E ixF (vE 0) (cE (.int 3))) (consA (vE 1) (nilA)))))) (nextS)))
def f__law_in : Nat → Fn
  | 0 => noneF
  | k + 1 => runF (s__law_in (f__law_in k)) 2 3
-- _law_signed: 0 d, 1 most
def s__law_signed : SM := seqS (retS (b2E subF (nA (callF 2 f__law_take) (consA (vE 0) (consA (b2E addF (b2E mulF (cE (.int 2)) (vE 1)) (cE (.int 1))) (nilA)))) (vE 1))) (nextS)
def f__law_signed : Fn := runF s__law_signed 2 2
-- _law_point_info: 0 d, 1 kind, 2 low
def s__law_point_info : SM := seqS (ifS (tbT (b2E eqF (vE 1) (cE (.str "clamp")))) (seqS (asgS (nA (callF 2 f__law_signed) (consA (vE 0) (consA (cE (.int 9)) (nilA)))) (.one 2)) (seqS (retS (nA tupF (consA (vE 2) (consA (b2E addF (vE 2) (nA (callF 2 f__law_take) (consA (vE 0) (consA (cE (.int 12)) (nilA))))) (nilA))))) (nextS))) (nextS)) (seqS (retS (ifE (tbT (b2E eqF (vE 1) (cE (.str "shift")))) (nA tupF (consA (b2E addF (cE (.int 1)) (nA (callF 2 f__law_take) (consA (vE 0) (consA (cE (.int 3)) (nilA))))) (nilA))) (nA tupF (nilA)))) (nextS))
def f__law_point_info : Fn := runF s__law_point_info 2 3
-- _law_form: 0 d, 1 env, 2 size, 3 terms, 4 low, 5 high, 6 var, 7 values, 8 factor, 9 ends, 10 v
def e__law_form_1 : EM := b2E mulF (vE 8) (vE 10)
def b__law_form_0 : SM := seqS (ifS (tbT (b2E gtF (nA (callF 2 f__law_take) (consA (vE 0) (consA (cE (.int 3)) (nilA)))) (cE (.int 0)))) (seqS (asgS (b2E ixF (nA tupF (consA (cE (.int 1)) (consA (cE (.int 1)) (consA (cE (.int 2)) (consA (b2E subF (cE (.int 0)) (cE (.int 1))) (nilA)))))) (nA (callF 2 f__law_take) (consA (vE 0) (consA (cE (.int 4)) (nilA))))) (.one 8)) (seqS (asgS (compE (srcE (vE 7)) [10] (.one 10) yesT e__law_form_1) (.one 9)) (seqS (ifS (tbT (b2E ltF (b2E subF (b2E subF (b2E addF (vE 5) (nA (f1 max1F) (consA (vE 9) (nilA)))) (vE 4)) (nA (f1 min1F) (consA (vE 9) (nilA)))) (vE 2))) (seqS (exprS (mtE "list" appF (vE 3) (consA (nA tupF (consA (vE 6) (consA (vE 8) (nilA)))) (nilA)))) (seqS (asgS (b2E addF (vE 4) (nA (f1 min1F) (consA (vE 9) (nilA)))) (.one 4)) (seqS (asgS (b2E addF (vE 5) (nA (f1 max1F) (consA (vE 9) (nilA)))) (.one 5)) (nextS)))) (nextS)) (nextS)))) (nextS)) (nextS)
def s__law_form : SM := seqS (asgS (nA lstF (nilA)) (.one 3)) (seqS (asgS (cE (.int 0)) (.one 4)) (seqS (asgS (cE (.int 0)) (.one 5)) (seqS (forS (srcE (vE 1)) (.many [6, 7]) b__law_form_0) (seqS (retS (nA tupF (consA (b2E subF (nA (callF 2 f__law_take) (consA (vE 0) (consA (b2E addF (b2E subF (vE 2) (vE 5)) (vE 4)) (nilA)))) (vE 4)) (consA (nA (f1 tupleF) (consA (vE 3) (nilA))) (nilA))))) (nextS)))))
def f__law_form : Fn := runF s__law_form 3 11
-- _law_test: 0 d, 1 env, 2 terms, 3 var, 4 values
def e__law_test_0 : EM := nA tupF (consA (vE 3) (consA (b2E ixF (nA tupF (consA (cE (.int 1)) (consA (b2E subF (cE (.int 0)) (cE (.int 1))) (consA (cE (.int 2)) (nilA))))) (nA (callF 2 f__law_take) (consA (vE 0) (consA (cE (.int 3)) (nilA))))) (nilA)))
def s__law_test : SM := seqS (asgS (nA (f1 tupleF) (consA (compE (srcE (slE (vE 1) (noO) (someO (cE (.int 2))))) [3, 4] (.many [3, 4]) yesT e__law_test_0) (nilA))) (.one 2)) (seqS (retS (nA tupF (consA (nA (callF 2 f__law_signed) (consA (vE 0) (consA (cE (.int 2)) (nilA)))) (consA (vE 2) (nilA))))) (nextS))
def f__law_test : Fn := runF s__law_test 2 5
-- _law_expr: 0 d, 1 buffers, 2 env, 3 level, 4 menu, 5 k, 6 size, 7 count, 8 stride, 9 form, 10 kinds, 11 kind, 12 many, 13 kids, 14 j
def e__law_expr_0 (r__law_expr : Fn) : EM := nA (callF 4 r__law_expr) (consA (vE 0) (consA (vE 1) (consA (vE 2) (consA (b2E addF (vE 3) (cE (.int 1))) (nilA)))))
def s__law_expr (r__law_expr : Fn) : SM := seqS (asgS (ifE (tbT (b2E ltF (vE 3) (cE (.int 3)))) (nA (callF 2 f__law_take) (consA (vE 0) (consA (cE (.int 9)) (nilA)))) (nA (callF 2 f__law_take) (consA (vE 0) (consA (cE (.int 4)) (nilA))))) (.one 4)) (seqS (ifS (tbT (b2E eqF (vE 4) (cE (.int 0)))) (seqS (retS (nA tupF (consA (cE (.str "number")) (consA (nA (callF 2 f__law_signed) (consA (vE 0) (consA (cE (.int 9)) (nilA)))) (nilA))))) (nextS)) (nextS)) (seqS (ifS (tbT (b2E eqF (vE 4) (cE (.int 1)))) (seqS (retS (nA tupF (consA (cE (.str "index")) (consA (nA (callF 2 f__law_test) (consA (vE 0) (consA (vE 2) (nilA)))) (nilA))))) (nextS)) (nextS)) (seqS (asgS (nA (callF 2 f__law_take) (consA (vE 0) (consA (nA (f1 lenF) (consA (vE 1) (nilA))) (nilA)))) (.one 5)) (seqS (asgS (b2E ixF (b2E ixF (vE 1) (vE 5)) (cE (.int 1))) (.one 6)) (seqS (ifS (tbT (b2E ltF (vE 4) (cE (.int 5)))) (seqS (retS (nA tupF (consA (cE (.str "load")) (consA (vE 5) (consA (nA (callF 3 f__law_form) (consA (vE 0) (consA (vE 2) (consA (vE 6) (nilA))))) (nilA)))))) (nextS)) (nextS)) (seqS (ifS (tbT (b2E eqF (vE 4) (cE (.int 5)))) (seqS (retS (nA tupF (consA (cE (.str "guard")) (consA (nA (callF 2 f__law_test) (consA (vE 0) (consA (vE 2) (nilA)))) (consA (nA (callF 4 r__law_expr) (consA (vE 0) (consA (vE 1) (consA (vE 2) (consA (b2E addF (vE 3) (cE (.int 1))) (nilA)))))) (consA (nA (callF 4 r__law_expr) (consA (vE 0) (consA (vE 1) (consA (vE 2) (consA (b2E addF (vE 3) (cE (.int 1))) (nilA)))))) (nilA))))))) (nextS)) (nextS)) (seqS (ifS (tbT (b2E eqF (vE 4) (cE (.int 6)))) (seqS (asgS (b2E addF (cE (.int 1)) (nA (callF 2 f__law_take) (consA (vE 0) (consA (nA (f2 min2F) (consA (cE (.int 4)) (consA (vE 6) (nilA)))) (nilA))))) (.one 7)) (seqS (asgS (ifE (tbT (b2E ltF (b2E mulF (cE (.int 2)) (b2E subF (vE 7) (cE (.int 1)))) (vE 6))) (b2E ixF (nA tupF (consA (cE (.int 1)) (consA (cE (.int 0)) (consA (cE (.int 2)) (nilA))))) (nA (callF 2 f__law_take) (consA (vE 0) (consA (cE (.int 3)) (nilA))))) (cE (.int 1))) (.one 8)) (seqS (asgS (nA (callF 3 f__law_form) (consA (vE 0) (consA (vE 2) (consA (b2E subF (vE 6) (b2E mulF (vE 8) (b2E subF (vE 7) (cE (.int 1))))) (nilA))))) (.one 9)) (seqS (retS (nA tupF (consA (cE (.str "pick")) (consA (vE 5) (consA (vE 9) (consA (vE 8) (consA (vE 7) (consA (nA (callF 4 r__law_expr) (consA (vE 0) (consA (vE 1) (consA (vE 2) (consA (b2E addF (vE 3) (cE (.int 1))) (nilA)))))) (nilA))))))))) (nextS))))) (nextS)) (seqS (asgS (nA tupF (consA (cE (.str "add")) (consA (cE (.str "sub")) (consA (cE (.str "mul")) (consA (cE (.str "max")) (consA (cE (.str "min")) (consA (cE (.str "less")) (consA (cE (.str "equal")) (consA (cE (.str "neg")) (consA (cE (.str "clamp")) (consA (cE (.str "shift")) (consA (cE (.str "where")) (consA (cE (.str "add")) (nilA)))))))))))))) (.one 10)) (seqS (asgS (b2E ixF (vE 10) (nA (callF 2 f__law_take) (consA (vE 0) (consA (cE (.int 12)) (nilA))))) (.one 11)) (seqS (asgS (ifE (tbT (b2E inF (vE 11) (nA tupF (consA (cE (.str "neg")) (consA (cE (.str "clamp")) (consA (cE (.str "shift")) (nilA))))))) (cE (.int 1)) (ifE (tbT (b2E eqF (vE 11) (cE (.str "where")))) (cE (.int 3)) (cE (.int 2)))) (.one 12)) (seqS (asgS (nA (f1 tupleF) (consA (compE (rngE rangeF1 (consA (vE 12) (nilA))) [14] (.one 14) yesT (e__law_expr_0 r__law_expr)) (nilA))) (.one 13)) (seqS (retS (nA tupF (consA (cE (.str "apply")) (consA (vE 11) (consA (vE 13) (consA (nA (callF 2 f__law_point_info) (consA (vE 0) (consA (vE 11) (nilA)))) (nilA))))))) (nextS)))))))))))))
def f__law_expr : Nat → Fn
  | 0 => noneF
  | k + 1 => runF (s__law_expr (f__law_expr k)) 4 15
-- _law_copy: 0 d, 1 buffers, 2 env, 3 near, 4 other, 5 one, 6 two, 7 count, 8 first, 9 second, 10 k
def e__law_copy_0 : EM := vE 10
def t__law_copy_0 : TM := tbT (b2E neF (b2E ixF (b2E ixF (vE 1) (vE 10)) (cE (.int 0))) (cE (.str "near")))
def e__law_copy_1 : EM := vE 10
def t__law_copy_1 : TM := tbT (b2E eqF (b2E ixF (b2E ixF (vE 1) (vE 10)) (cE (.int 0))) (cE (.str "near")))
def s__law_copy : SM := seqS (asgS (compE (rngE rangeF1 (consA (nA (f1 lenF) (consA (vE 1) (nilA))) (nilA))) [10] (.one 10) t__law_copy_1 e__law_copy_1) (.one 3)) (seqS (asgS (compE (rngE rangeF1 (consA (nA (f1 lenF) (consA (vE 1) (nilA))) (nilA))) [10] (.one 10) t__law_copy_0 e__law_copy_0) (.one 4)) (seqS (ifS (tbT (b2E eqF (nA (f1 lenF) (consA (vE 3) (nilA))) (cE (.int 0)))) (seqS (retS (cE (.non))) (nextS)) (nextS)) (seqS (asgS (b2E ixF (vE 3) (nA (callF 2 f__law_take) (consA (vE 0) (consA (nA (f1 lenF) (consA (vE 3) (nilA))) (nilA))))) (.one 5)) (seqS (asgS (b2E ixF (vE 4) (nA (callF 2 f__law_take) (consA (vE 0) (consA (nA (f1 lenF) (consA (vE 4) (nilA))) (nilA))))) (.one 6)) (seqS (asgS (b2E addF (cE (.int 1)) (nA (callF 2 f__law_take) (consA (vE 0) (consA (nA (f2 min2F) (consA (b2E ixF (b2E ixF (vE 1) (vE 5)) (cE (.int 1))) (consA (b2E ixF (b2E ixF (vE 1) (vE 6)) (cE (.int 1))) (nilA)))) (nilA))))) (.one 7)) (seqS (asgS (nA (callF 3 f__law_form) (consA (vE 0) (consA (vE 2) (consA (b2E addF (b2E subF (b2E ixF (b2E ixF (vE 1) (vE 5)) (cE (.int 1))) (vE 7)) (cE (.int 1))) (nilA))))) (.one 8)) (seqS (asgS (nA (callF 3 f__law_form) (consA (vE 0) (consA (vE 2) (consA (b2E addF (b2E subF (b2E ixF (b2E ixF (vE 1) (vE 6)) (cE (.int 1))) (vE 7)) (cE (.int 1))) (nilA))))) (.one 9)) (seqS (ifS (andT (tbT (b2E eqF (b2E ixF (b2E ixF (vE 1) (vE 6)) (cE (.int 0))) (cE (.str "main")))) (tbT (b2E eqF (nA (callF 2 f__law_take) (consA (vE 0) (consA (cE (.int 2)) (nilA)))) (cE (.int 1))))) (seqS (retS (nA tupF (consA (cE (.str "copy")) (consA (vE 6) (consA (vE 9) (consA (vE 5) (consA (vE 8) (consA (vE 7) (nilA))))))))) (nextS)) (nextS)) (seqS (retS (nA tupF (consA (cE (.str "copy")) (consA (vE 5) (consA (vE 8) (consA (vE 6) (consA (vE 9) (consA (vE 7) (nilA))))))))) (nextS))))))))))
def f__law_copy : Fn := runF s__law_copy 3 11
-- _law_statement: 0 d, 1 buffers, 2 env, 3 depth, 4 menu, 5 var, 6 count, 7 start, 8 step, 9 inner, 10 copy, 11 sets, 12 k
def e__law_statement_0 (r__law_statement : Fn) (r__law_body : Fn) : EM := vE 12
def t__law_statement_0 (r__law_statement : Fn) (r__law_body : Fn) : TM := tbT (b2E neF (b2E ixF (b2E ixF (vE 1) (vE 12)) (cE (.int 0))) (cE (.str "in")))
def e__law_statement_1 (r__law_statement : Fn) (r__law_body : Fn) : EM := b2E addF (vE 7) (b2E mulF (vE 8) (vE 12))
def s__law_statement (r__law_statement : Fn) (r__law_body : Fn) : SM := seqS (asgS (nA (callF 2 f__law_take) (consA (vE 0) (consA (cE (.int 6)) (nilA)))) (.one 4)) (seqS (ifS (andT (tbT (b2E ltF (vE 4) (cE (.int 3)))) (tbT (b2E ltF (vE 3) (cE (.int 3))))) (seqS (asgS (b2E addF (b2E mulF (cE (.int 3)) (vE 3)) (nA (callF 2 f__law_take) (consA (vE 0) (consA (cE (.int 3)) (nilA))))) (.one 5)) (seqS (asgS (b2E addF (cE (.int 1)) (nA (callF 2 f__law_take) (consA (vE 0) (consA (cE (.int 3)) (nilA))))) (.one 6)) (seqS (asgS (nA (callF 2 f__law_signed) (consA (vE 0) (consA (cE (.int 2)) (nilA)))) (.one 7)) (seqS (asgS (b2E ixF (nA tupF (consA (cE (.int 1)) (consA (cE (.int 1)) (consA (cE (.int 2)) (consA (b2E subF (cE (.int 0)) (cE (.int 1))) (nilA)))))) (nA (callF 2 f__law_take) (consA (vE 0) (consA (cE (.int 4)) (nilA))))) (.one 8)) (seqS (asgS (b2E addF (vE 2) (nA lstF (consA (nA tupF (consA (vE 5) (consA (compE (rngE rangeF1 (consA (vE 6) (nilA))) [12] (.one 12) yesT (e__law_statement_1 r__law_statement r__law_body)) (nilA)))) (nilA)))) (.one 9)) (seqS (retS (nA tupF (consA (cE (.str "loop")) (consA (vE 5) (consA (vE 7) (consA (vE 8) (consA (vE 6) (consA (nA (callF 5 r__law_body) (consA (vE 0) (consA (vE 1) (consA (vE 9) (consA (b2E addF (vE 3) (cE (.int 1))) (consA (b2E addF (cE (.int 1)) (nA (callF 2 f__law_take) (consA (vE 0) (consA (cE (.int 2)) (nilA))))) (nilA))))))) (nilA))))))))) (nextS))))))) (nextS)) (seqS (ifS (andT (tbT (b2E eqF (vE 4) (cE (.int 3)))) (tbT (b2E ltF (vE 3) (cE (.int 3))))) (seqS (retS (nA tupF (consA (cE (.str "when")) (consA (nA (callF 2 f__law_test) (consA (vE 0) (consA (vE 2) (nilA)))) (consA (nA (callF 5 r__law_body) (consA (vE 0) (consA (vE 1) (consA (vE 2) (consA (b2E addF (vE 3) (cE (.int 1))) (consA (b2E addF (cE (.int 1)) (nA (callF 2 f__law_take) (consA (vE 0) (consA (cE (.int 2)) (nilA))))) (nilA))))))) (nilA)))))) (nextS)) (nextS)) (seqS (ifS (tbT (b2E eqF (vE 4) (cE (.int 4)))) (seqS (asgS (nA (callF 3 f__law_copy) (consA (vE 0) (consA (vE 1) (consA (vE 2) (nilA))))) (.one 10)) (seqS (ifS (tbT (b2E isNotF (vE 10) (cE (.non)))) (seqS (retS (vE 10)) (nextS)) (nextS)) (nextS))) (nextS)) (seqS (asgS (compE (rngE rangeF1 (consA (nA (f1 lenF) (consA (vE 1) (nilA))) (nilA))) [12] (.one 12) (t__law_statement_0 r__law_statement r__law_body) (e__law_statement_0 r__law_statement r__law_body)) (.one 11)) (seqS (asgS (b2E ixF (vE 11) (nA (callF 2 f__law_take) (consA (vE 0) (consA (nA (f1 lenF) (consA (vE 11) (nilA))) (nilA))))) (.one 12)) (seqS (retS (nA tupF (consA (cE (.str "put")) (consA (vE 12) (consA (nA (callF 3 f__law_form) (consA (vE 0) (consA (vE 2) (consA (b2E ixF (b2E ixF (vE 1) (vE 12)) (cE (.int 1))) (nilA))))) (consA (nA (callF 4 (f__law_expr 12)) (consA (vE 0) (consA (vE 1) (consA (vE 2) (consA (cE (.int 1)) (nilA)))))) (nilA))))))) (nextS)))))))
-- _law_body: 0 d, 1 buffers, 2 env, 3 depth, 4 many, 5 k
def e__law_body_0 (r__law_statement : Fn) (r__law_body : Fn) : EM := nA (callF 4 r__law_statement) (consA (vE 0) (consA (vE 1) (consA (vE 2) (consA (vE 3) (nilA)))))
def s__law_body (r__law_statement : Fn) (r__law_body : Fn) : SM := seqS (retS (nA (f1 tupleF) (consA (compE (rngE rangeF1 (consA (vE 4) (nilA))) [5] (.one 5) yesT (e__law_body_0 r__law_statement r__law_body)) (nilA)))) (nextS)
mutual
def f__law_statement : Nat → Fn
  | 0 => noneF
  | k + 1 => runF (s__law_statement (f__law_statement k) (f__law_body k)) 4 13
def f__law_body : Nat → Fn
  | 0 => noneF
  | k + 1 => runF (s__law_body (f__law_statement k) (f__law_body k)) 5 6
end
-- _law_program: 0 d, 1 set_first, 2 buffers, 3 k, 4 body, 5 put
def b__law_program_0 : SM := seqS (ifS (andT (tbT (b2E neF (b2E ixF (b2E ixF (vE 2) (vE 3)) (cE (.int 0))) (cE (.str "in")))) (trT (vE 1))) (seqS (asgS (nA tupF (consA (cE (.str "put")) (consA (vE 3) (consA (nA tupF (consA (cE (.int 0)) (consA (nA tupF (consA (nA tupF (consA (cE (.int 0)) (consA (cE (.int 1)) (nilA)))) (nilA))) (nilA)))) (consA (nA tupF (consA (cE (.str "index")) (consA (nA tupF (consA (nA (callF 2 f__law_signed) (consA (vE 0) (consA (cE (.int 9)) (nilA)))) (consA (nA tupF (consA (nA tupF (consA (cE (.int 0)) (consA (cE (.int 2)) (nilA)))) (nilA))) (nilA)))) (nilA)))) (nilA)))))) (.one 5)) (seqS (exprS (mtE "list" appF (vE 4) (consA (nA tupF (consA (cE (.str "loop")) (consA (cE (.int 0)) (consA (cE (.int 0)) (consA (cE (.int 1)) (consA (b2E ixF (b2E ixF (vE 2) (vE 3)) (cE (.int 1))) (consA (nA tupF (consA (vE 5) (nilA))) (nilA)))))))) (nilA)))) (nextS))) (nextS)) (nextS)
def b__law_program_1 : SM := seqS (exprS (mtE "list" appF (vE 2) (consA (nA tupF (consA (b2E ixF (nA tupF (consA (cE (.str "near")) (consA (cE (.str "main")) (consA (cE (.str "in")) (consA (cE (.str "near")) (nilA)))))) (nA (callF 2 f__law_take) (consA (vE 0) (consA (cE (.int 4)) (nilA))))) (consA (b2E addF (cE (.int 1)) (nA (callF 2 f__law_take) (consA (vE 0) (consA (cE (.int 5)) (nilA))))) (nilA)))) (nilA)))) (nextS)
def s__law_program : SM := seqS (asgS (nA lstF (consA (nA tupF (consA (cE (.str "in")) (consA (b2E addF (cE (.int 1)) (nA (callF 2 f__law_take) (consA (vE 0) (consA (cE (.int 5)) (nilA))))) (nilA)))) (consA (nA tupF (consA (cE (.str "main")) (consA (b2E addF (cE (.int 1)) (nA (callF 2 f__law_take) (consA (vE 0) (consA (cE (.int 5)) (nilA))))) (nilA)))) (nilA)))) (.one 2)) (seqS (forS (rngE rangeF1 (consA (nA (callF 2 f__law_take) (consA (vE 0) (consA (cE (.int 3)) (nilA)))) (nilA))) (.one 3) b__law_program_1) (seqS (asgS (nA lstF (nilA)) (.one 4)) (seqS (forS (rngE rangeF1 (consA (nA (f1 lenF) (consA (vE 2) (nilA))) (nilA))) (.one 3) b__law_program_0) (seqS (asgS (b2E addF (vE 4) (nA (f1 listF) (consA (nA (callF 5 (f__law_body 12)) (consA (vE 0) (consA (vE 2) (consA (nA lstF (nilA)) (consA (cE (.int 0)) (consA (b2E addF (cE (.int 1)) (nA (callF 2 f__law_take) (consA (vE 0) (consA (cE (.int 3)) (nilA))))) (nilA))))))) (nilA)))) (.one 4)) (seqS (retS (nA tupF (consA (nA (f1 tupleF) (consA (vE 2) (nilA))) (consA (nA (f1 tupleF) (consA (vE 4) (nilA))) (nilA))))) (nextS))))))
def f__law_program : Fn := runF s__law_program 2 6
abbrev s__law_begin : SM := s_begin
abbrev f__law_begin : Fn := f_begin
-- law: 0 script, 1 d, 2 buffers, 3 body, 4 outs, 5 due, 6 k, 7 found, 8 first, 9 last, 10 actual, 11 turn, 12 one, 13 two, 14 told, 15 t
def e_law_1 : EM := vE 15
def t_law_1 : TM := tbT (chE leF leF (b2E ixF (vE 13) (cE (.int 0))) (vE 15) (b2E ixF (vE 13) (cE (.int 1))))
def b_law_0 : SM := seqS (asgS (nA tupF (consA (nA (callF 2 f__law_take) (consA (vE 1) (consA (cE (.int 5)) (nilA)))) (consA (b2E addF (cE (.int 4)) (nA (callF 2 f__law_take) (consA (vE 1) (consA (cE (.int 5)) (nilA))))) (nilA)))) (.one 12)) (seqS (asgS (nA tupF (consA (nA (callF 2 f__law_take) (consA (vE 1) (consA (cE (.int 9)) (nilA)))) (consA (b2E addF (cE (.int 8)) (nA (callF 2 f__law_take) (consA (vE 1) (consA (cE (.int 5)) (nilA))))) (nilA)))) (.one 13)) (seqS (asgS (nA (callF 2 f_meet) (consA (vE 12) (consA (vE 13) (nilA)))) (.one 14)) (seqS (ifS (orT (notT (trT (nA (f2 isiF) (consA (vE 14) (consA (cE (.ty "bool")) (nilA)))))) (tbT (b2E neF (vE 14) (b2E gtF (nA (f1 lenF) (consA (compE (rngE rangeF2 (consA (b2E ixF (vE 12) (cE (.int 0))) (consA (b2E addF (b2E ixF (vE 12) (cE (.int 1))) (cE (.int 1))) (nilA)))) [15] (.one 15) t_law_1 e_law_1) (nilA))) (cE (.int 0)))))) (seqS (retS (cE (.bl false))) (nextS)) (nextS)) (seqS (ifS (orT (tbT (b2E neF (nA (callF 2 f_meet) (consA (vE 13) (consA (vE 12) (nilA)))) (vE 14))) (notT (trT (nA (callF 2 f_meet) (consA (vE 12) (consA (vE 12) (nilA))))))) (seqS (retS (cE (.bl false))) (nextS)) (nextS)) (nextS)))))
def e_law_3 : EM := vE 15
def t_law_3 : TM := trT (nA (callF 2 (f__law_in 12)) (consA (b2E ixF (vE 3) (vE 15)) (consA (vE 6) (nilA))))
def b_law_2 : SM := seqS (ifS (tbT (b2E eqF (b2E ixF (b2E ixF (vE 2) (vE 6)) (cE (.int 0))) (cE (.str "main")))) (seqS (asgS (compE (rngE rangeF1 (consA (nA (f1 lenF) (consA (vE 3) (nilA))) (nilA))) [15] (.one 15) t_law_3 e_law_3) (.one 7)) (seqS (asgS (ifE (tbT (b2E gtF (nA (f1 lenF) (consA (vE 7) (nilA))) (cE (.int 0)))) (b2E ixF (vE 7) (cE (.int 0))) (cE (.int 0))) (.one 8)) (seqS (asgS (ifE (tbT (b2E inF (vE 6) (vE 4))) (nA (f1 lenF) (consA (vE 3) (nilA))) (ifE (tbT (b2E gtF (nA (f1 lenF) (consA (vE 7) (nilA))) (cE (.int 0)))) (b2E ixF (vE 7) (u1E negF (cE (.int 1)))) (cE (.int 0)))) (.one 9)) (seqS (exprS (mtE "list" appF (vE 5) (consA (nA tupF (consA (vE 8) (consA (vE 9) (nilA)))) (nilA)))) (nextS))))) (nextS)) (nextS)
def e_law_4 : EM := nA (callF 2 f__law_take) (consA (vE 1) (consA (nA (f1 lenF) (consA (vE 2) (nilA))) (nilA)))
def s_law : SM := seqS (asgS (nA (callF 1 f__law_begin) (consA (vE 0) (nilA))) (.one 1)) (seqS (asgS (nA (callF 2 f__law_program) (consA (vE 1) (consA (b2E eqF (nA (callF 2 f__law_take) (consA (vE 1) (consA (cE (.int 2)) (nilA)))) (cE (.int 1))) (nilA)))) (.many [2, 3])) (seqS (asgS (b2E addF (vE 3) (nA (callF 5 (f__law_body 12)) (consA (vE 1) (consA (vE 2) (consA (nA lstF (nilA)) (consA (cE (.int 0)) (consA (b2E addF (cE (.int 1)) (nA (callF 2 f__law_take) (consA (vE 1) (consA (cE (.int 2)) (nilA))))) (nilA)))))))) (.one 3)) (seqS (asgS (nA (f1 tupleF) (consA (compE (rngE rangeF1 (consA (nA (callF 2 f__law_take) (consA (vE 1) (consA (cE (.int 3)) (nilA)))) (nilA))) [6] (.one 6) yesT e_law_4) (nilA))) (.one 4)) (seqS (asgS (nA lstF (nilA)) (.one 5)) (seqS (forS (rngE rangeF1 (consA (nA (f1 lenF) (consA (vE 2) (nilA))) (nilA))) (.one 6) b_law_2) (seqS (asgS (nA (callF 2 f_lives) (consA (nA tupF (consA (vE 2) (consA (vE 3) (nilA)))) (consA (vE 4) (nilA)))) (.one 10)) (seqS (ifS (orT (notT (trT (nA (f2 isiF) (consA (vE 10) (consA (cE (.ty "tuple")) (nilA)))))) (tbT (b2E neF (vE 10) (nA (f1 tupleF) (consA (vE 5) (nilA)))))) (seqS (retS (cE (.bl false))) (nextS)) (nextS)) (seqS (forS (rngE rangeF1 (consA (cE (.int 3)) (nilA))) (.one 11) b_law_0) (seqS (retS (cE (.bl true))) (nextS))))))))))
def f_law : Fn := runF s_law 1 16
/-! ### the walks -/
theorem sc_meet : FnScope ["one", "other"] ["one", "other"] (defScope (top 6)) := ⟨rfl, rfl, rfl, by decide +kernel, rfl, by decide +kernel, by decide +kernel⟩
def T_meet : List (Str × (Nat × Fn)) := []
theorem cc_meet : cSs 400 (defSC ["one", "other"] (defScope (top 6)) (tb.tab (T_meet)) 0) (defBody (top 6)) = s_meet := by kernel_rfl
theorem sc__law_take : FnScope ["d", "many", "small", "digit"] ["d", "many"] (defScope (top 9)) := ⟨rfl, rfl, rfl, by decide +kernel, rfl, by decide +kernel, by decide +kernel⟩
def T__law_take : List (Str × (Nat × Fn)) := []
theorem cc__law_take : cSs 400 (defSC ["d", "many", "small", "digit"] (defScope (top 9)) (tb.tab (T__law_take)) 0) (defBody (top 9)) = s__law_take := by kernel_rfl
theorem sc_statements_in : FnScope ["body", "found", "statement"] ["body"] (defScope (top 2)) := ⟨rfl, rfl, rfl, by decide +kernel, rfl, by decide +kernel, by decide +kernel⟩
def T_statements_in (r_statements_in : Fn) : List (Str × (Nat × Fn)) := [("statements_in", 1, r_statements_in)]
theorem cc_statements_in (k : Nat) (r_statements_in : Fn) : cSs 400 (defSC ["body", "found", "statement"] (defScope (top 2)) (tb.tab (T_statements_in r_statements_in)) (0 + k)) (defBody (top 2)) = s_statements_in r_statements_in := by kernel_rfl
theorem sc_expressions_in : FnScope ["expr", "found", "kid"] ["expr"] (defScope (top 1)) := ⟨rfl, rfl, rfl, by decide +kernel, rfl, by decide +kernel, by decide +kernel⟩
def T_expressions_in (r_expressions_in : Fn) : List (Str × (Nat × Fn)) := [("expressions_in", 1, r_expressions_in)]
theorem cc_expressions_in (k : Nat) (r_expressions_in : Fn) : cSs 400 (defSC ["expr", "found", "kid"] (defScope (top 1)) (tb.tab (T_expressions_in r_expressions_in)) (0 + k)) (defBody (top 1)) = s_expressions_in r_expressions_in := by kernel_rfl
theorem sc_buffers_in : FnScope ["statement", "found", "inner", "e"] ["statement"] (defScope (top 4)) := ⟨rfl, rfl, rfl, by decide +kernel, rfl, by decide +kernel, by decide +kernel⟩
def T_buffers_in : List (Str × (Nat × Fn)) := [("statements_in", 1, (f_statements_in 12)), ("expressions_in", 1, (f_expressions_in 12))]
theorem cc_buffers_in : cSs 400 (defSC ["statement", "found", "inner", "e"] (defScope (top 4)) (tb.tab (T_buffers_in)) 12) (defBody (top 4)) = s_buffers_in := by kernel_rfl
theorem sc_lives : FnScope ["program", "outs", "buffers", "body", "rows", "result", "k", "used", "first", "last", "statement", "t"] ["program", "outs"] (defScope (top 5)) := ⟨rfl, rfl, rfl, by decide +kernel, rfl, by decide +kernel, by decide +kernel⟩
def T_lives : List (Str × (Nat × Fn)) := [("buffers_in", 1, f_buffers_in)]
theorem cc_lives : cSs 400 (defSC ["program", "outs", "buffers", "body", "rows", "result", "k", "used", "first", "last", "statement", "t"] (defScope (top 5)) (tb.tab (T_lives)) 13) (defBody (top 5)) = s_lives := by kernel_rfl
theorem sc__law_in_expr : FnScope ["expr", "k", "kid"] ["expr", "k"] (defScope (top 19)) := ⟨rfl, rfl, rfl, by decide +kernel, rfl, by decide +kernel, by decide +kernel⟩
def T__law_in_expr (r__law_in_expr : Fn) : List (Str × (Nat × Fn)) := [("_law_in_expr", 2, r__law_in_expr)]
theorem cc__law_in_expr (k : Nat) (r__law_in_expr : Fn) : cSs 400 (defSC ["expr", "k", "kid"] (defScope (top 19)) (tb.tab (T__law_in_expr r__law_in_expr)) (0 + k)) (defBody (top 19)) = s__law_in_expr r__law_in_expr := by kernel_rfl
theorem sc__law_in : FnScope ["s", "k", "one"] ["s", "k"] (defScope (top 20)) := ⟨rfl, rfl, rfl, by decide +kernel, rfl, by decide +kernel, by decide +kernel⟩
def T__law_in (r__law_in : Fn) : List (Str × (Nat × Fn)) := [("_law_in_expr", 2, (f__law_in_expr 12)), ("_law_in", 2, r__law_in)]
theorem cc__law_in (k : Nat) (r__law_in : Fn) : cSs 400 (defSC ["s", "k", "one"] (defScope (top 20)) (tb.tab (T__law_in r__law_in)) (12 + k)) (defBody (top 20)) = s__law_in r__law_in := by kernel_rfl
theorem sc__law_signed : FnScope ["d", "most"] ["d", "most"] (defScope (top 10)) := ⟨rfl, rfl, rfl, by decide +kernel, rfl, by decide +kernel, by decide +kernel⟩
def T__law_signed : List (Str × (Nat × Fn)) := [("_law_take", 2, f__law_take)]
theorem cc__law_signed : cSs 400 (defSC ["d", "most"] (defScope (top 10)) (tb.tab (T__law_signed)) 1) (defBody (top 10)) = s__law_signed := by kernel_rfl
theorem sc__law_point_info : FnScope ["d", "kind", "low"] ["d", "kind"] (defScope (top 13)) := ⟨rfl, rfl, rfl, by decide +kernel, rfl, by decide +kernel, by decide +kernel⟩
def T__law_point_info : List (Str × (Nat × Fn)) := [("_law_take", 2, f__law_take), ("_law_signed", 2, f__law_signed)]
theorem cc__law_point_info : cSs 400 (defSC ["d", "kind", "low"] (defScope (top 13)) (tb.tab (T__law_point_info)) 2) (defBody (top 13)) = s__law_point_info := by kernel_rfl
theorem sc__law_form : FnScope ["d", "env", "size", "terms", "low", "high", "var", "values", "factor", "ends", "v"] ["d", "env", "size"] (defScope (top 11)) := ⟨rfl, rfl, rfl, by decide +kernel, rfl, by decide +kernel, by decide +kernel⟩
def T__law_form : List (Str × (Nat × Fn)) := [("_law_take", 2, f__law_take)]
theorem cc__law_form : cSs 400 (defSC ["d", "env", "size", "terms", "low", "high", "var", "values", "factor", "ends", "v"] (defScope (top 11)) (tb.tab (T__law_form)) 1) (defBody (top 11)) = s__law_form := by kernel_rfl
theorem sc__law_test : FnScope ["d", "env", "terms", "var", "values"] ["d", "env"] (defScope (top 12)) := ⟨rfl, rfl, rfl, by decide +kernel, rfl, by decide +kernel, by decide +kernel⟩
def T__law_test : List (Str × (Nat × Fn)) := [("_law_signed", 2, f__law_signed), ("_law_take", 2, f__law_take)]
theorem cc__law_test : cSs 400 (defSC ["d", "env", "terms", "var", "values"] (defScope (top 12)) (tb.tab (T__law_test)) 2) (defBody (top 12)) = s__law_test := by kernel_rfl
theorem sc__law_expr : FnScope ["d", "buffers", "env", "level", "menu", "k", "size", "count", "stride", "form", "kinds", "kind", "many", "kids", "j"] ["d", "buffers", "env", "level"] (defScope (top 14)) := ⟨rfl, rfl, rfl, by decide +kernel, rfl, by decide +kernel, by decide +kernel⟩
def T__law_expr (r__law_expr : Fn) : List (Str × (Nat × Fn)) := [("_law_point_info", 2, f__law_point_info), ("_law_expr", 4, r__law_expr), ("_law_take", 2, f__law_take), ("_law_form", 3, f__law_form), ("_law_test", 2, f__law_test), ("_law_signed", 2, f__law_signed)]
theorem cc__law_expr (k : Nat) (r__law_expr : Fn) : cSs 400 (defSC ["d", "buffers", "env", "level", "menu", "k", "size", "count", "stride", "form", "kinds", "kind", "many", "kids", "j"] (defScope (top 14)) (tb.tab (T__law_expr r__law_expr)) (3 + k)) (defBody (top 14)) = s__law_expr r__law_expr := by kernel_rfl
theorem sc__law_copy : FnScope ["d", "buffers", "env", "near", "other", "one", "two", "count", "first", "second", "k"] ["d", "buffers", "env"] (defScope (top 15)) := ⟨rfl, rfl, rfl, by decide +kernel, rfl, by decide +kernel, by decide +kernel⟩
def T__law_copy : List (Str × (Nat × Fn)) := [("_law_take", 2, f__law_take), ("_law_form", 3, f__law_form)]
theorem cc__law_copy : cSs 400 (defSC ["d", "buffers", "env", "near", "other", "one", "two", "count", "first", "second", "k"] (defScope (top 15)) (tb.tab (T__law_copy)) 2) (defBody (top 15)) = s__law_copy := by kernel_rfl
theorem sc__law_statement : FnScope ["d", "buffers", "env", "depth", "menu", "var", "count", "start", "step", "inner", "copy", "sets", "k"] ["d", "buffers", "env", "depth"] (defScope (top 16)) := ⟨rfl, rfl, rfl, by decide +kernel, rfl, by decide +kernel, by decide +kernel⟩
def T__law_statement (r__law_statement : Fn) (r__law_body : Fn) : List (Str × (Nat × Fn)) := [("_law_expr", 4, (f__law_expr 12)), ("_law_form", 3, f__law_form), ("_law_take", 2, f__law_take), ("_law_copy", 3, f__law_copy), ("_law_body", 5, r__law_body), ("_law_test", 2, f__law_test), ("_law_signed", 2, f__law_signed)]
theorem cc__law_statement (k : Nat) (r__law_statement : Fn) (r__law_body : Fn) : cSs 400 (defSC ["d", "buffers", "env", "depth", "menu", "var", "count", "start", "step", "inner", "copy", "sets", "k"] (defScope (top 16)) (tb.tab (T__law_statement r__law_statement r__law_body)) (15 + k)) (defBody (top 16)) = s__law_statement r__law_statement r__law_body := by kernel_rfl
theorem sc__law_body : FnScope ["d", "buffers", "env", "depth", "many", "k"] ["d", "buffers", "env", "depth", "many"] (defScope (top 17)) := ⟨rfl, rfl, rfl, by decide +kernel, rfl, by decide +kernel, by decide +kernel⟩
def T__law_body (r__law_statement : Fn) (r__law_body : Fn) : List (Str × (Nat × Fn)) := [("_law_statement", 4, r__law_statement)]
theorem cc__law_body (k : Nat) (r__law_statement : Fn) (r__law_body : Fn) : cSs 400 (defSC ["d", "buffers", "env", "depth", "many", "k"] (defScope (top 17)) (tb.tab (T__law_body r__law_statement r__law_body)) (15 + k)) (defBody (top 17)) = s__law_body r__law_statement r__law_body := by kernel_rfl
theorem sc__law_program : FnScope ["d", "set_first", "buffers", "k", "body", "put"] ["d", "set_first"] (defScope (top 18)) := ⟨rfl, rfl, rfl, by decide +kernel, rfl, by decide +kernel, by decide +kernel⟩
def T__law_program : List (Str × (Nat × Fn)) := [("_law_body", 5, (f__law_body 12)), ("_law_take", 2, f__law_take), ("_law_signed", 2, f__law_signed)]
theorem cc__law_program : cSs 400 (defSC ["d", "set_first", "buffers", "k", "body", "put"] (defScope (top 18)) (tb.tab (T__law_program)) 27) (defBody (top 18)) = s__law_program := by kernel_rfl
theorem sc__law_begin : FnScope ["script", "seed", "cell"] ["script"] (defScope (top 8)) := ⟨rfl, rfl, rfl, by decide +kernel, rfl, by decide +kernel, by decide +kernel⟩
def T__law_begin : List (Str × (Nat × Fn)) := []
theorem cc__law_begin : cSs 400 (defSC ["script", "seed", "cell"] (defScope (top 8)) (tb.tab (T__law_begin)) 0) (defBody (top 8)) = s__law_begin := by kernel_rfl
theorem sc_law : FnScope ["script", "d", "buffers", "body", "outs", "due", "k", "found", "first", "last", "actual", "turn", "one", "two", "told", "t"] ["script"] (defScope (top 21)) := ⟨rfl, rfl, rfl, by decide +kernel, rfl, by decide +kernel, by decide +kernel⟩
def T_law : List (Str × (Nat × Fn)) := [("meet", 2, f_meet), ("_law_take", 2, f__law_take), ("lives", 2, f_lives), ("_law_in", 2, (f__law_in 12)), ("_law_body", 5, (f__law_body 12)), ("_law_program", 2, f__law_program), ("_law_begin", 1, f__law_begin)]
theorem cc_law : cSs 400 (defSC ["script", "d", "buffers", "body", "outs", "due", "k", "found", "first", "last", "actual", "turn", "one", "two", "told", "t"] (defScope (top 21)) (tb.tab (T_law)) 28) (defBody (top 21)) = s_law := by kernel_rfl
section
variable {P : Program} {w : World} {K : PySem.W.Frag} {mg : Str → Option Value} {base : Heap}
theorem ca_meet (c : SaysX tb gl fn K) (T : TbOk K mg tb gl) : Cal P w K mg base 1 "meet" 2 f_meet :=
  cal_of c T 0 rfl (by simp [gl]) sc_meet (fun fd F => F.bindsN fun _ _ _ _ _ _ us hl => match us, hl with | [_, _], _ => rfl) Cals.nil f_meet (congrArg (fun z => runF z 2 2) cc_meet)
theorem ca__law_take (c : SaysX tb gl fn K) (T : TbOk K mg tb gl) : Cal P w K mg base 1 "_law_take" 2 f__law_take :=
  cal_of c T 1 rfl (by simp [gl]) sc__law_take (fun fd F => F.bindsN fun _ _ _ _ _ _ us hl => match us, hl with | [_, _], _ => rfl) Cals.nil f__law_take (congrArg (fun z => runF z 2 4) cc__law_take)
theorem cg_statements_in (c : SaysX tb gl fn K) (T : TbOk K mg tb gl) : ∀ k : Nat, Cal P w K mg base (0 + k) "statements_in" 1 (f_statements_in k)
  | 0 => cal_none (ps := ["body"]) c T 2 rfl (by simp [gl]) (fun fd F => F.bindsN fun _ _ _ _ _ _ us hl => match us, hl with | [_], _ => rfl)
  | k + 1 => by
    have h_statements_in := cg_statements_in c T k
    exact cal_of c T 2 rfl (by simp [gl]) sc_statements_in (fun fd F => F.bindsN fun _ _ _ _ _ _ us hl => match us, hl with | [_], _ => rfl) (Cals.cons (h_statements_in) Cals.nil) (f_statements_in (k + 1)) (congrArg (fun z => runF z 1 3) (cc_statements_in k (f_statements_in k)))
theorem ca_statements_in (k : Nat) (c : SaysX tb gl fn K) (T : TbOk K mg tb gl) : Cal P w K mg base (0 + k) "statements_in" 1 (f_statements_in k) := cg_statements_in c T k
theorem cg_expressions_in (c : SaysX tb gl fn K) (T : TbOk K mg tb gl) : ∀ k : Nat, Cal P w K mg base (0 + k) "expressions_in" 1 (f_expressions_in k)
  | 0 => cal_none (ps := ["expr"]) c T 3 rfl (by simp [gl]) (fun fd F => F.bindsN fun _ _ _ _ _ _ us hl => match us, hl with | [_], _ => rfl)
  | k + 1 => by
    have h_expressions_in := cg_expressions_in c T k
    exact cal_of c T 3 rfl (by simp [gl]) sc_expressions_in (fun fd F => F.bindsN fun _ _ _ _ _ _ us hl => match us, hl with | [_], _ => rfl) (Cals.cons (h_expressions_in) Cals.nil) (f_expressions_in (k + 1)) (congrArg (fun z => runF z 1 3) (cc_expressions_in k (f_expressions_in k)))
theorem ca_expressions_in (k : Nat) (c : SaysX tb gl fn K) (T : TbOk K mg tb gl) : Cal P w K mg base (0 + k) "expressions_in" 1 (f_expressions_in k) := cg_expressions_in c T k
theorem ca_buffers_in (c : SaysX tb gl fn K) (T : TbOk K mg tb gl) : Cal P w K mg base 13 "buffers_in" 1 f_buffers_in :=
  cal_of c T 4 rfl (by simp [gl]) sc_buffers_in (fun fd F => F.bindsN fun _ _ _ _ _ _ us hl => match us, hl with | [_], _ => rfl) (Cals.cons ((ca_statements_in 12 c T).mono (by omega)) (Cals.cons ((ca_expressions_in 12 c T).mono (by omega)) Cals.nil)) f_buffers_in (congrArg (fun z => runF z 1 4) cc_buffers_in)
theorem ca_lives (c : SaysX tb gl fn K) (T : TbOk K mg tb gl) : Cal P w K mg base 14 "lives" 2 f_lives :=
  cal_of c T 5 rfl (by simp [gl]) sc_lives (fun fd F => F.bindsN fun _ _ _ _ _ _ us hl => match us, hl with | [_, _], _ => rfl) (Cals.cons ((ca_buffers_in c T).mono (by omega)) Cals.nil) f_lives (congrArg (fun z => runF z 2 12) cc_lives)
theorem cg__law_in_expr (c : SaysX tb gl fn K) (T : TbOk K mg tb gl) : ∀ k : Nat, Cal P w K mg base (0 + k) "_law_in_expr" 2 (f__law_in_expr k)
  | 0 => cal_none (ps := ["expr", "k"]) c T 6 rfl (by simp [gl]) (fun fd F => F.bindsN fun _ _ _ _ _ _ us hl => match us, hl with | [_, _], _ => rfl)
  | k + 1 => by
    have h__law_in_expr := cg__law_in_expr c T k
    exact cal_of c T 6 rfl (by simp [gl]) sc__law_in_expr (fun fd F => F.bindsN fun _ _ _ _ _ _ us hl => match us, hl with | [_, _], _ => rfl) (Cals.cons (h__law_in_expr) Cals.nil) (f__law_in_expr (k + 1)) (congrArg (fun z => runF z 2 3) (cc__law_in_expr k (f__law_in_expr k)))
theorem ca__law_in_expr (k : Nat) (c : SaysX tb gl fn K) (T : TbOk K mg tb gl) : Cal P w K mg base (0 + k) "_law_in_expr" 2 (f__law_in_expr k) := cg__law_in_expr c T k
theorem cg__law_in (c : SaysX tb gl fn K) (T : TbOk K mg tb gl) : ∀ k : Nat, Cal P w K mg base (12 + k) "_law_in" 2 (f__law_in k)
  | 0 => cal_none (ps := ["s", "k"]) c T 7 rfl (by simp [gl]) (fun fd F => F.bindsN fun _ _ _ _ _ _ us hl => match us, hl with | [_, _], _ => rfl)
  | k + 1 => by
    have h__law_in := cg__law_in c T k
    exact cal_of c T 7 rfl (by simp [gl]) sc__law_in (fun fd F => F.bindsN fun _ _ _ _ _ _ us hl => match us, hl with | [_, _], _ => rfl) (Cals.cons ((ca__law_in_expr 12 c T).mono (by omega)) (Cals.cons (h__law_in) Cals.nil)) (f__law_in (k + 1)) (congrArg (fun z => runF z 2 3) (cc__law_in k (f__law_in k)))
theorem ca__law_in (k : Nat) (c : SaysX tb gl fn K) (T : TbOk K mg tb gl) : Cal P w K mg base (12 + k) "_law_in" 2 (f__law_in k) := cg__law_in c T k
theorem ca__law_signed (c : SaysX tb gl fn K) (T : TbOk K mg tb gl) : Cal P w K mg base 2 "_law_signed" 2 f__law_signed :=
  cal_of c T 8 rfl (by simp [gl]) sc__law_signed (fun fd F => F.bindsN fun _ _ _ _ _ _ us hl => match us, hl with | [_, _], _ => rfl) (Cals.cons ((ca__law_take c T).mono (by omega)) Cals.nil) f__law_signed (congrArg (fun z => runF z 2 2) cc__law_signed)
theorem ca__law_point_info (c : SaysX tb gl fn K) (T : TbOk K mg tb gl) : Cal P w K mg base 3 "_law_point_info" 2 f__law_point_info :=
  cal_of c T 9 rfl (by simp [gl]) sc__law_point_info (fun fd F => F.bindsN fun _ _ _ _ _ _ us hl => match us, hl with | [_, _], _ => rfl) (Cals.cons ((ca__law_take c T).mono (by omega)) (Cals.cons ((ca__law_signed c T).mono (by omega)) Cals.nil)) f__law_point_info (congrArg (fun z => runF z 2 3) cc__law_point_info)
theorem ca__law_form (c : SaysX tb gl fn K) (T : TbOk K mg tb gl) : Cal P w K mg base 2 "_law_form" 3 f__law_form :=
  cal_of c T 10 rfl (by simp [gl]) sc__law_form (fun fd F => F.bindsN fun _ _ _ _ _ _ us hl => match us, hl with | [_, _, _], _ => rfl) (Cals.cons ((ca__law_take c T).mono (by omega)) Cals.nil) f__law_form (congrArg (fun z => runF z 3 11) cc__law_form)
theorem ca__law_test (c : SaysX tb gl fn K) (T : TbOk K mg tb gl) : Cal P w K mg base 3 "_law_test" 2 f__law_test :=
  cal_of c T 11 rfl (by simp [gl]) sc__law_test (fun fd F => F.bindsN fun _ _ _ _ _ _ us hl => match us, hl with | [_, _], _ => rfl) (Cals.cons ((ca__law_signed c T).mono (by omega)) (Cals.cons ((ca__law_take c T).mono (by omega)) Cals.nil)) f__law_test (congrArg (fun z => runF z 2 5) cc__law_test)
theorem cg__law_expr (c : SaysX tb gl fn K) (T : TbOk K mg tb gl) : ∀ k : Nat, Cal P w K mg base (3 + k) "_law_expr" 4 (f__law_expr k)
  | 0 => cal_none (ps := ["d", "buffers", "env", "level"]) c T 12 rfl (by simp [gl]) (fun fd F => F.bindsN fun _ _ _ _ _ _ us hl => match us, hl with | [_, _, _, _], _ => rfl)
  | k + 1 => by
    have h__law_expr := cg__law_expr c T k
    exact cal_of c T 12 rfl (by simp [gl]) sc__law_expr (fun fd F => F.bindsN fun _ _ _ _ _ _ us hl => match us, hl with | [_, _, _, _], _ => rfl) (Cals.cons ((ca__law_point_info c T).mono (by omega)) (Cals.cons (h__law_expr) (Cals.cons ((ca__law_take c T).mono (by omega)) (Cals.cons ((ca__law_form c T).mono (by omega)) (Cals.cons ((ca__law_test c T).mono (by omega)) (Cals.cons ((ca__law_signed c T).mono (by omega)) Cals.nil)))))) (f__law_expr (k + 1)) (congrArg (fun z => runF z 4 15) (cc__law_expr k (f__law_expr k)))
theorem ca__law_expr (k : Nat) (c : SaysX tb gl fn K) (T : TbOk K mg tb gl) : Cal P w K mg base (3 + k) "_law_expr" 4 (f__law_expr k) := cg__law_expr c T k
theorem ca__law_copy (c : SaysX tb gl fn K) (T : TbOk K mg tb gl) : Cal P w K mg base 3 "_law_copy" 3 f__law_copy :=
  cal_of c T 13 rfl (by simp [gl]) sc__law_copy (fun fd F => F.bindsN fun _ _ _ _ _ _ us hl => match us, hl with | [_, _, _], _ => rfl) (Cals.cons ((ca__law_take c T).mono (by omega)) (Cals.cons ((ca__law_form c T).mono (by omega)) Cals.nil)) f__law_copy (congrArg (fun z => runF z 3 11) cc__law_copy)
theorem cg__law_statement (c : SaysX tb gl fn K) (T : TbOk K mg tb gl) : ∀ k : Nat, Cal P w K mg base (15 + k) "_law_statement" 4 (f__law_statement k) ∧ Cal P w K mg base (15 + k) "_law_body" 5 (f__law_body k)
  | 0 => ⟨cal_none (ps := ["d", "buffers", "env", "depth"]) c T 14 rfl (by simp [gl]) (fun fd F => F.bindsN fun _ _ _ _ _ _ us hl => match us, hl with | [_, _, _, _], _ => rfl), cal_none (ps := ["d", "buffers", "env", "depth", "many"]) c T 15 rfl (by simp [gl]) (fun fd F => F.bindsN fun _ _ _ _ _ _ us hl => match us, hl with | [_, _, _, _, _], _ => rfl)⟩
  | k + 1 => by
    obtain ⟨h__law_statement, h__law_body⟩ := cg__law_statement c T k
    exact ⟨cal_of c T 14 rfl (by simp [gl]) sc__law_statement (fun fd F => F.bindsN fun _ _ _ _ _ _ us hl => match us, hl with | [_, _, _, _], _ => rfl) (Cals.cons ((ca__law_expr 12 c T).mono (by omega)) (Cals.cons ((ca__law_form c T).mono (by omega)) (Cals.cons ((ca__law_take c T).mono (by omega)) (Cals.cons ((ca__law_copy c T).mono (by omega)) (Cals.cons (h__law_body) (Cals.cons ((ca__law_test c T).mono (by omega)) (Cals.cons ((ca__law_signed c T).mono (by omega)) Cals.nil))))))) (f__law_statement (k + 1)) (congrArg (fun z => runF z 4 13) (cc__law_statement k (f__law_statement k) (f__law_body k))), cal_of c T 15 rfl (by simp [gl]) sc__law_body (fun fd F => F.bindsN fun _ _ _ _ _ _ us hl => match us, hl with | [_, _, _, _, _], _ => rfl) (Cals.cons (h__law_statement) Cals.nil) (f__law_body (k + 1)) (congrArg (fun z => runF z 5 6) (cc__law_body k (f__law_statement k) (f__law_body k)))⟩
theorem ca__law_statement (k : Nat) (c : SaysX tb gl fn K) (T : TbOk K mg tb gl) : Cal P w K mg base (15 + k) "_law_statement" 4 (f__law_statement k) := (cg__law_statement c T k).1
theorem ca__law_body (k : Nat) (c : SaysX tb gl fn K) (T : TbOk K mg tb gl) : Cal P w K mg base (15 + k) "_law_body" 5 (f__law_body k) := (cg__law_statement c T k).2
theorem ca__law_program (c : SaysX tb gl fn K) (T : TbOk K mg tb gl) : Cal P w K mg base 28 "_law_program" 2 f__law_program :=
  cal_of c T 16 rfl (by simp [gl]) sc__law_program (fun fd F => F.bindsN fun _ _ _ _ _ _ us hl => match us, hl with | [_, _], _ => rfl) (Cals.cons ((ca__law_body 12 c T).mono (by omega)) (Cals.cons ((ca__law_take c T).mono (by omega)) (Cals.cons ((ca__law_signed c T).mono (by omega)) Cals.nil))) f__law_program (congrArg (fun z => runF z 2 6) cc__law_program)
theorem ca__law_begin (c : SaysX tb gl fn K) (T : TbOk K mg tb gl) : Cal P w K mg base 1 "_law_begin" 1 f__law_begin :=
  cal_of c T 17 rfl (by simp [gl]) sc__law_begin (fun fd F => F.bindsN fun _ _ _ _ _ _ us hl => match us, hl with | [_], _ => rfl) Cals.nil f__law_begin (congrArg (fun z => runF z 1 3) cc__law_begin)
theorem law_is (c : SaysX tb gl fn K) (T : TbOk K mg tb gl) : LawOk P w K mg 29 f_law :=
  law_of c T 18 rfl (by simp [gl]) sc_law (fun fd F => F.bindsA (ps := ["script"]) fun _ _ _ _ _ _ us hl => match us, hl with | [_], _ => rfl) (fun base => (Cals.cons ((ca_meet c T).mono (by omega)) (Cals.cons ((ca__law_take c T).mono (by omega)) (Cals.cons ((ca_lives c T).mono (by omega)) (Cals.cons ((ca__law_in 12 c T).mono (by omega)) (Cals.cons ((ca__law_body 12 c T).mono (by omega)) (Cals.cons ((ca__law_program c T).mono (by omega)) (Cals.cons ((ca__law_begin c T).mono (by omega)) Cals.nil)))))))) f_law (congrArg (fun z => runF z 1 16) cc_law)
end
/-! ### the head -/
abbrev R : PySem.W.OpenRow := PySem.W.OpenLaw.row PySem.Challenge.rw_tensorcompiler_k42_lives_of_buffers
abbrev hk : PySem.W.Hook := hookX 4 tb gl fn
def ob (s : PySem.W.SharedT) : He.AlD := obX 4 tb gl fn s
theorem run (w : World) : HandSHeadRun.RunEq R (PySem.W.view R.prog [21]) hk ob 2000 ["__name__", "expressions_in", "statements_in", "buffers_in", "lives", "meet", "_law_begin", "_law_take", "_law_signed", "_law_form", "_law_test", "_law_point_info", "_law_expr", "_law_copy", "_law_statement", "_law_body", "_law_program", "_law_in_expr", "_law_in"] w := by
  intro os
  kernel_rfl
end Lk42
section
open PySem PySem.W PySem.Calls PyProof.Rows
theorem PySem.Challenge.cw_tensorcompiler_k42_lives_of_buffers_holds_of (pure : ∀ (s : List Int), s.length ≤ 63 → ∃ h, Lk42.f_law [.frl (s.map Dy.D.int)] ⟨[], 0⟩ = .ok (.bl true) h) : PySem.Challenge.rw_tensorcompiler_k42_lives_of_buffers.Holds := by
  w_on; o_law
  refine HandSHeadRun.head_any (r := OpenLaw.row PySem.Challenge.rw_tensorcompiler_k42_lives_of_buffers) (q := view (OpenLaw.row PySem.Challenge.rw_tensorcompiler_k42_lives_of_buffers).prog [21]) (H := Lk42.hk) (ob := Lk42.ob) (M := 2000) (loose := ["__name__", "expressions_in", "statements_in", "buffers_in", "lives", "meet", "_law_begin", "_law_take", "_law_signed", "_law_form", "_law_test", "_law_point_info", "_law_expr", "_law_copy", "_law_statement", "_law_body", "_law_program", "_law_in_expr", "_law_in"]) (d := HandSHeadRun.topDef (OpenLaw.row PySem.Challenge.rw_tensorcompiler_k42_lives_of_buffers).prog 21) (kwd := []) Dy.obX_eq
    (by kernel_rfl) (fun s => by kernel_rfl) Lk42.run (by kernel_rfl) (by kernel_rfl) (by kernel_rfl) (by rfl) (by first | assumption | decide +kernel) (by decide +kernel) ⟨rfl, rfl, rfl, rfl, rfl, by decide +kernel⟩ ?hw ?hc
  case hw => w_witness2
  case hc =>
    exact Dy.law_end (l := PySem.Challenge.rw_tensorcompiler_k42_lives_of_buffers) (k := 29) rfl (by kernel_rfl) ⟨rfl, by decide, by decide⟩ (by kernel_rfl) (fun w K mg c T => Lk42.law_is c T) pure
end

namespace Lk42
open PySem PySem.Spec PyProof.Rows L2 Dy
/-! ### tags -/
@[simp] theorem tg_number_load : (("number" : Str) = "load") = False := eq_false (by decide +kernel)
@[simp] theorem tg_number_pick : (("number" : Str) = "pick") = False := eq_false (by decide +kernel)
@[simp] theorem tg_number_guard : (("number" : Str) = "guard") = False := eq_false (by decide +kernel)
@[simp] theorem tg_number_apply : (("number" : Str) = "apply") = False := eq_false (by decide +kernel)
@[simp] theorem tg_index_load : (("index" : Str) = "load") = False := eq_false (by decide +kernel)
@[simp] theorem tg_index_pick : (("index" : Str) = "pick") = False := eq_false (by decide +kernel)
@[simp] theorem tg_index_guard : (("index" : Str) = "guard") = False := eq_false (by decide +kernel)
@[simp] theorem tg_index_apply : (("index" : Str) = "apply") = False := eq_false (by decide +kernel)
@[simp] theorem tg_load_pick : (("load" : Str) = "pick") = False := eq_false (by decide +kernel)
@[simp] theorem tg_load_guard : (("load" : Str) = "guard") = False := eq_false (by decide +kernel)
@[simp] theorem tg_load_apply : (("load" : Str) = "apply") = False := eq_false (by decide +kernel)
@[simp] theorem tg_pick_load : (("pick" : Str) = "load") = False := eq_false (by decide +kernel)
@[simp] theorem tg_pick_guard : (("pick" : Str) = "guard") = False := eq_false (by decide +kernel)
@[simp] theorem tg_pick_apply : (("pick" : Str) = "apply") = False := eq_false (by decide +kernel)
@[simp] theorem tg_guard_load : (("guard" : Str) = "load") = False := eq_false (by decide +kernel)
@[simp] theorem tg_guard_pick : (("guard" : Str) = "pick") = False := eq_false (by decide +kernel)
@[simp] theorem tg_guard_apply : (("guard" : Str) = "apply") = False := eq_false (by decide +kernel)
@[simp] theorem tg_apply_load : (("apply" : Str) = "load") = False := eq_false (by decide +kernel)
@[simp] theorem tg_apply_pick : (("apply" : Str) = "pick") = False := eq_false (by decide +kernel)
@[simp] theorem tg_apply_guard : (("apply" : Str) = "guard") = False := eq_false (by decide +kernel)
@[simp] theorem tg_put_copy : (("put" : Str) = "copy") = False := eq_false (by decide +kernel)
@[simp] theorem tg_copy_put : (("copy" : Str) = "put") = False := eq_false (by decide +kernel)
@[simp] theorem tg_loop_put : (("loop" : Str) = "put") = False := eq_false (by decide +kernel)
@[simp] theorem tg_loop_copy : (("loop" : Str) = "copy") = False := eq_false (by decide +kernel)
@[simp] theorem tg_when_put : (("when" : Str) = "put") = False := eq_false (by decide +kernel)
@[simp] theorem tg_when_copy : (("when" : Str) = "copy") = False := eq_false (by decide +kernel)
theorem in_put {h : PH} : inF (.str "put") (.tup [.str "loop", .str "when"]) h = .ok (.bl false) h := by
  show Res.ok (D.bl (([.str "loop", .str "when"] : List D).any fun d => eqFl d (.str "put"))) h = _
  rw [show (([.str "loop", .str "when"] : List D).any fun d => eqFl d (.str "put")) = false by decide +kernel]
theorem in_copy {h : PH} : inF (.str "copy") (.tup [.str "loop", .str "when"]) h = .ok (.bl false) h := by
  show Res.ok (D.bl (([.str "loop", .str "when"] : List D).any fun d => eqFl d (.str "copy"))) h = _
  rw [show (([.str "loop", .str "when"] : List D).any fun d => eqFl d (.str "copy")) = false by decide +kernel]
theorem in_loop {h : PH} : inF (.str "loop") (.tup [.str "loop", .str "when"]) h = .ok (.bl true) h := by
  show Res.ok (D.bl (([.str "loop", .str "when"] : List D).any fun d => eqFl d (.str "loop"))) h = _
  rw [show (([.str "loop", .str "when"] : List D).any fun d => eqFl d (.str "loop")) = true by decide +kernel]
theorem in_when {h : PH} : inF (.str "when") (.tup [.str "loop", .str "when"]) h = .ok (.bl true) h := by
  show Res.ok (D.bl (([.str "loop", .str "when"] : List D).any fun d => eqFl d (.str "when"))) h = _
  rw [show (([.str "loop", .str "when"] : List D).any fun d => eqFl d (.str "when")) = true by decide +kernel]
theorem lp_number {h : PH} : inF (.str "number") (.tup [.str "load", .str "pick"]) h = .ok (.bl false) h := by
  show Res.ok (D.bl (([.str "load", .str "pick"] : List D).any fun d => eqFl d (.str "number"))) h = _
  rw [show (([.str "load", .str "pick"] : List D).any fun d => eqFl d (.str "number")) = false by decide +kernel]
theorem lp_index {h : PH} : inF (.str "index") (.tup [.str "load", .str "pick"]) h = .ok (.bl false) h := by
  show Res.ok (D.bl (([.str "load", .str "pick"] : List D).any fun d => eqFl d (.str "index"))) h = _
  rw [show (([.str "load", .str "pick"] : List D).any fun d => eqFl d (.str "index")) = false by decide +kernel]
theorem lp_load {h : PH} : inF (.str "load") (.tup [.str "load", .str "pick"]) h = .ok (.bl true) h := by
  show Res.ok (D.bl (([.str "load", .str "pick"] : List D).any fun d => eqFl d (.str "load"))) h = _
  rw [show (([.str "load", .str "pick"] : List D).any fun d => eqFl d (.str "load")) = true by decide +kernel]
theorem lp_pick {h : PH} : inF (.str "pick") (.tup [.str "load", .str "pick"]) h = .ok (.bl true) h := by
  show Res.ok (D.bl (([.str "load", .str "pick"] : List D).any fun d => eqFl d (.str "pick"))) h = _
  rw [show (([.str "load", .str "pick"] : List D).any fun d => eqFl d (.str "pick")) = true by decide +kernel]
theorem lp_guard {h : PH} : inF (.str "guard") (.tup [.str "load", .str "pick"]) h = .ok (.bl false) h := by
  show Res.ok (D.bl (([.str "load", .str "pick"] : List D).any fun d => eqFl d (.str "guard"))) h = _
  rw [show (([.str "load", .str "pick"] : List D).any fun d => eqFl d (.str "guard")) = false by decide +kernel]
theorem lp_apply {h : PH} : inF (.str "apply") (.tup [.str "load", .str "pick"]) h = .ok (.bl false) h := by
  show Res.ok (D.bl (([.str "load", .str "pick"] : List D).any fun d => eqFl d (.str "apply"))) h = _
  rw [show (([.str "load", .str "pick"] : List D).any fun d => eqFl d (.str "apply")) = false by decide +kernel]
theorem atm1_6 {a b c d e f : D} : L2.atI [a, b, c, d, e, f] (-1) = some f := rfl
theorem atm1_3 {a b c : D} : L2.atI [a, b, c] (-1) = some c := rfl
/-! ### heaps that grow -/
section
variable {h : PH} {c : Cell} {n k : Nat}
theorem push_at : (h.push c).at h.cs.length = some c := by
  show (h.cs ++ [c])[h.cs.length]? = _
  rw [List.getElem?_append_right (Nat.le_refl _), Nat.sub_self]; rfl
theorem push_lt (q : n < h.cs.length) : (h.push c).at n = h.at n := by
  show (h.cs ++ [c])[n]? = h.cs[n]?
  rw [List.getElem?_append_left q]
theorem push_len : (h.push c).cs.length = h.cs.length + 1 := by
  show (h.cs ++ [c]).length = _
  rw [List.length_append]; rfl
theorem push_lim : (h.push c).lim = h.lim := rfl
theorem push_cut (q : k ≤ h.cs.length) : (h.push c).cut k = h.cut k := by
  show PH.mk ((h.cs ++ [c]).take k) _ = PH.mk (h.cs.take k) _
  rw [List.take_append_of_le_length q]; rfl
theorem cut_len : h.cut h.cs.length = h := cut_ge (Nat.le_refl _)
end
def Grow (h X : PH) : Prop := ∃ g, X = ⟨h.cs ++ g, h.lim⟩
theorem Grow.refl {h : PH} : Grow h h := ⟨[], by rw [List.append_nil]⟩
theorem Grow.trans {h X Y : PH} (a : Grow h X) (b : Grow X Y) : Grow h Y := by
  obtain ⟨g, rfl⟩ := a
  obtain ⟨g', rfl⟩ := b
  exact ⟨g ++ g', by rw [← List.append_assoc]⟩
theorem Grow.push {h X : PH} (a : Grow h X) (c : Cell) : Grow h (X.push c) := a.trans ⟨[c], rfl⟩
theorem Grow.le {h X : PH} (a : Grow h X) : h.cs.length ≤ X.cs.length := by
  obtain ⟨g, rfl⟩ := a
  show _ ≤ (h.cs ++ g).length
  rw [List.length_append]; omega
theorem Grow.lim {h X : PH} (a : Grow h X) : X.lim = h.lim := by
  obtain ⟨g, rfl⟩ := a; rfl
theorem Grow.at_ {h X : PH} (a : Grow h X) {n : Nat} (q : n < h.cs.length) : X.at n = h.at n := by
  obtain ⟨g, rfl⟩ := a
  show (h.cs ++ g)[n]? = h.cs[n]?
  rw [List.getElem?_append_left q]
theorem Grow.cut {h X : PH} (a : Grow h X) {k : Nat} (q : k ≤ h.cs.length) : X.cut k = h.cut k := by
  obtain ⟨g, rfl⟩ := a
  show PH.mk ((h.cs ++ g).take k) _ = PH.mk (h.cs.take k) _
  rw [List.take_append_of_le_length q]
theorem Grow.back {h X : PH} (a : Grow h X) : X.cut h.cs.length = h := by rw [a.cut (Nat.le_refl _), cut_len]
theorem Grow.ok {h X : PH} (a : Grow h X) (hl : h.lim ≤ h.cs.length) : X.lim ≤ X.cs.length := by rw [a.lim]; exact Nat.le_trans hl a.le
theorem at_lt {h : PH} {n : Nat} {c : Cell} (q : h.at n = some c) : n < h.cs.length := (List.getElem?_eq_some_iff.mp (show h.cs[n]? = some c from q)).1
theorem ret_last {X : PH} {c : Cell} {N : Nat} : (Out.ret (.ref X.cs.length) (X.push c)).fin N = .ok (.ref X.cs.length) (X.push c) := by
  rw [fin_ret, cut_ge]
  rw [push_len, mr_ref]; omega
theorem mrE_ge {e : Dy.Env} {i : Nat} {d : D} (h : e[i]? = some (some d)) : d.mr ≤ mrE e := by
  induction e generalizing i with
  | nil => cases h
  | cons x r ih =>
    cases i with
    | zero =>
      have h' : x = some d := Option.some.inj h
      subst h'
      show d.mr ≤ max d.mr (mrE r)
      omega
    | succ i =>
      have := ih (i := i) h
      cases x with
      | none => exact this
      | some y => show d.mr ≤ max y.mr (mrE r); omega
theorem ladd_ap {h : PH} {m n : Nat} {xs ys : List D} (hm : h.at m = some (.lst xs)) (hn : h.at n = some (.lst ys)) (l : xs.length + ys.length ≤ 16777216) : addF (.ref m) (.ref n) h = .ok (.ref h.cs.length) (h.push (.lst (xs ++ ys))) := by
  have e1 : refLst h (.ref m) = some (m, xs) := by
    show (match h.cs[m]? with | some (.lst ds) => some (m, ds) | _ => none) = _
    have : h.cs[m]? = some (.lst xs) := hm
    rw [this]
  have e2 : refLst h (.ref n) = some (n, ys) := by
    show (match h.cs[n]? with | some (.lst ds) => some (n, ds) | _ => none) = _
    have : h.cs[n]? = some (.lst ys) := hn
    rw [this]
  show lAdd (.ref m) (.ref n) h = _
  unfold lAdd
  rw [e1, e2]
  show (if xs.length + ys.length ≤ 16777216 then newL (xs ++ ys) h else .stuck) = _
  rw [if_pos l]; rfl
theorem app_ap {h : PH} {n : Nat} {ds : List D} {d : D} (hn : h.at n = some (.lst ds)) (l : ds.length < 16777216) : appF (.ref n) [d] h = .ok .non (h.put n (.lst (ds ++ [d]))) := by
  rw [appF_refO, hn]
  show (if ds.length < 16777216 then Res.ok D.non (h.put n (.lst (ds ++ [d]))) else .stuck) = _
  rw [if_pos l]
theorem is_lst {h : PH} {n : Nat} {ds : List D} (hn : h.at n = some (.lst ds)) : isLst (h.at n) = true := by rw [hn]; rfl
theorem sl_ref {n : Nat} {ds : List D} {lo hi : Option Int} {h : PH} (hn : h.at n = some (.lst ds)) : slF (.ref n) lo hi h = .ok (.ref h.cs.length) (h.push (.lst (Dy.cutD ds lo hi))) := by
  show (match itemsL h (.ref n) with | some ds => newL (Dy.cutD ds lo hi) h | none => .stuck) = _
  rw [itemsL_ref, hn]; rfl
theorem push_put1 {h : PH} {a c : Cell} (z : c.mr ≤ h.cs.length) : (h.push a).put h.cs.length c = h.push c := by
  unfold PH.put
  rw [if_pos z]
  show PH.mk ((h.cs ++ [a]).set h.cs.length c) _ = PH.mk (h.cs ++ [c]) _
  rw [List.set_append_right _ _ (Nat.le_refl _), Nat.sub_self]
  rfl
theorem gc_last {X : PH} {c : Cell} {l i : Nat} {e : Dy.Env} (h : e[i]? = some (some (.ref X.cs.length))) : (X.push c).gc l e = X.push c := by
  have g : X.cs.length + 1 ≤ mrE e := mrE_ge h
  unfold PH.gc
  exact cut_ge (by rw [push_len]; omega)
/-! ### expressions, statements -/
structure Op where
  d : D
  h : d.mr = 0
inductive Ex where
  | num (o : Op) | idx (o : Op) | load (k : Nat) (f : Op) | pick (k : Nat) (f s c : Op) (e : Ex) | guard (t : Op) (a b : Ex)
  | app1 (kd i : Op) (a : Ex) | app2 (kd i : Op) (a b : Ex) | app3 (kd i : Op) (a b c : Ex)
def encE : Ex → D
  | .num o => .tup [.str "number", o.d]
  | .idx o => .tup [.str "index", o.d]
  | .load k f => .tup [.str "load", .int (k : Int), f.d]
  | .pick k f s c e => .tup [.str "pick", .int (k : Int), f.d, s.d, c.d, encE e]
  | .guard t a b => .tup [.str "guard", t.d, encE a, encE b]
  | .app1 kd i a => .tup [.str "apply", kd.d, .tup [encE a], i.d]
  | .app2 kd i a b => .tup [.str "apply", kd.d, .tup [encE a, encE b], i.d]
  | .app3 kd i a b c => .tup [.str "apply", kd.d, .tup [encE a, encE b, encE c], i.d]
theorem encE_mr : ∀ e : Ex, (encE e).mr = 0
  | .num o => by show max 0 (max o.d.mr 0) = 0; rw [o.h]; rfl
  | .idx o => by show max 0 (max o.d.mr 0) = 0; rw [o.h]; rfl
  | .load k f => by show max 0 (max 0 (max f.d.mr 0)) = 0; rw [f.h]; rfl
  | .pick k f s c e => by show max 0 (max 0 (max f.d.mr (max s.d.mr (max c.d.mr (max (encE e).mr 0))))) = 0; rw [f.h, s.h, c.h, encE_mr e]; rfl
  | .guard t a b => by show max 0 (max t.d.mr (max (encE a).mr (max (encE b).mr 0))) = 0; rw [t.h, encE_mr a, encE_mr b]; rfl
  | .app1 kd i a => by show max 0 (max kd.d.mr (max (max (encE a).mr 0) (max i.d.mr 0))) = 0; rw [kd.h, i.h, encE_mr a]; rfl
  | .app2 kd i a b => by show max 0 (max kd.d.mr (max (max (encE a).mr (max (encE b).mr 0)) (max i.d.mr 0))) = 0; rw [kd.h, i.h, encE_mr a, encE_mr b]; rfl
  | .app3 kd i a b c => by show max 0 (max kd.d.mr (max (max (encE a).mr (max (encE b).mr (max (encE c).mr 0))) (max i.d.mr 0))) = 0; rw [kd.h, i.h, encE_mr a, encE_mr b, encE_mr c]; rfl
def exs : Ex → List Ex
  | .pick k f s c e => .pick k f s c e :: exs e
  | .guard t a b => .guard t a b :: (exs a ++ exs b)
  | .app1 kd i a => .app1 kd i a :: exs a
  | .app2 kd i a b => .app2 kd i a b :: (exs a ++ exs b)
  | .app3 kd i a b c => .app3 kd i a b c :: (exs a ++ (exs b ++ exs c))
  | e => [e]
def dpt : Ex → Nat
  | .pick _ _ _ _ e => dpt e + 1
  | .guard _ a b => max (dpt a) (dpt b) + 1
  | .app1 _ _ a => dpt a + 1
  | .app2 _ _ a b => max (dpt a) (dpt b) + 1
  | .app3 _ _ a b c => max (dpt a) (max (dpt b) (dpt c)) + 1
  | _ => 0
def eD (es : List Ex) : List D := es.map encE
theorem eD_mr {es : List Ex} : mrL (eD es) = 0 := by
  induction es with
  | nil => rfl
  | cons x r ih => show max (encE x).mr (mrL (eD r)) = 0; rw [ih, encE_mr]; rfl
theorem exs_pos : ∀ e : Ex, 1 ≤ (exs e).length
  | .num _ => Nat.le_refl _
  | .idx _ => Nat.le_refl _
  | .load _ _ => Nat.le_refl _
  | .pick _ _ _ _ _ => by unfold exs; simp
  | .guard _ _ _ => by unfold exs; simp
  | .app1 _ _ _ => by unfold exs; simp
  | .app2 _ _ _ _ => by unfold exs; simp
  | .app3 _ _ _ _ _ => by unfold exs; simp
/-- found + what a call found -/
theorem add_rec {Z X : PH} {M : Nat} {fs L : List D} (hm : Z.at M = some (.lst fs)) (g : Grow Z X) (l : fs.length + L.length ≤ 16777216) :
    addF (.ref M) (.ref X.cs.length) (X.push (.lst L)) = .ok (.ref (X.cs.length + 1)) ((X.push (.lst L)).push (.lst (fs ++ L))) := by
  have a := ladd_ap (h := X.push (.lst L)) (m := M) (n := X.cs.length) (xs := fs) (ys := L) (by rw [push_lt (Nat.lt_of_lt_of_le (at_lt hm) g.le), g.at_ (at_lt hm)]; exact hm) push_at l
  rw [push_len] at a
  exact a
def ExOk (r : Fn) (e : Ex) : Prop := ∀ h : PH, h.lim ≤ h.cs.length → ∃ X, Grow h X ∧ r [encE e] h = .ok (.ref X.cs.length) (X.push (.lst (eD (exs e))))
theorem kids_loop {r : Fn} {x0 : Option D} {l : Nat} : ∀ (ks : List Ex) (X : PH) (fs : List D) (x2 : Option D), X.lim ≤ X.cs.length → (∀ k ∈ ks, ExOk r k) → fs.length + (ks.flatMap exs).length ≤ 16000000 → ∃ (Y : PH) (x2' : Option D), Grow X Y ∧
    forV (.one 2) (b_expressions_in_0 r) l (ks.map encE) [x0, some (.ref X.cs.length), x2] (X.push (.lst fs)) = .nxt [x0, some (.ref Y.cs.length), x2'] (Y.push (.lst (fs ++ eD (ks.flatMap exs)))) := by
  intro ks
  induction ks with
  | nil => intro X fs x2 _ _ _; exact ⟨X, x2, .refl, by rw [show eD (List.flatMap exs []) = [] from rfl, List.append_nil]; rfl⟩
  | cons k ks ih =>
    intro X fs x2 hl hk ln
    rw [List.flatMap_cons, List.length_append] at ln
    obtain ⟨A, gA, eA⟩ := hk k List.mem_cons_self (X.push (.lst fs)) (by rw [push_len, push_lim]; omega)
    have ad := add_rec (Z := X.push (.lst fs)) (X := A) (M := X.cs.length) (fs := fs) (L := eD (exs k)) push_at gA (by unfold eD; rw [List.length_map]; omega)
    have b : b_expressions_in_0 r [x0, some (.ref X.cs.length), some (encE k)] (X.push (.lst fs)) = .nxt [x0, some (.ref (A.cs.length + 1)), some (encE k)] ((A.push (.lst (eD (exs k)))).push (.lst (fs ++ eD (exs k)))) := by
      generalize (A.push (.lst (eD (exs k)))).push (.lst (fs ++ eD (exs k))) = G at *
      generalize A.push (.lst (eD (exs k))) = A1 at *
      generalize X.push (.lst fs) = X1 at *
      unfold b_expressions_in_0
      simp [eA, ad]
    have gXA : Grow X (A.push (.lst (eD (exs k)))) := ((Grow.refl.push (.lst fs)).trans gA).push _
    obtain ⟨Y, x2', gY, w⟩ := ih (A.push (.lst (eD (exs k)))) (fs ++ eD (exs k)) (some (encE k)) (gXA.ok hl) (fun k' h' => hk k' (List.mem_cons_of_mem _ h')) (by rw [List.length_append]; unfold eD; rw [List.length_map]; omega)
    refine ⟨Y, x2', gXA.trans gY, ?_⟩
    rw [List.map_cons, forV_cons, tgt_one, tgtO_some]
    show (b_expressions_in_0 r [x0, some (.ref X.cs.length), some (encE k)] (X.push (.lst fs))).nextV _ _ _ _ = _
    rw [b, nextV_nxt]
    have gc := gc_last (X := A.push (.lst (eD (exs k)))) (c := .lst (fs ++ eD (exs k))) (l := l) (i := 1) (e := [x0, some (.ref (A.cs.length + 1)), some (encE k)]) (by rw [push_len]; rfl)
    rw [gc]
    rw [push_len] at w
    rw [w, List.append_assoc, List.flatMap_cons]
    unfold eD
    rw [List.map_append]
theorem eD_cons {e : Ex} {es : List Ex} : eD (e :: es) = encE e :: eD es := rfl
theorem eD_app {a b : List Ex} : eD (a ++ b) = eD a ++ eD b := List.map_append
theorem eD_len {a : List Ex} : (eD a).length = a.length := List.length_map _
theorem exs_kids {r : Fn} {e : Ex} {ks : List Ex} {kd i : Op} (he : encE e = .tup [.str "apply", kd.d, .tup (ks.map encE), i.d]) (hx : exs e = e :: ks.flatMap exs) (hk : ∀ k ∈ ks, ExOk r k) (ln : (exs e).length ≤ 1000000) : ExOk (runF (s_expressions_in r) 1 3) e := fun h hl => by
  rw [hx, List.length_cons] at ln
  obtain ⟨Y, x2', gY, lo⟩ := kids_loop (x0 := some (encE e)) (l := h.cs.length + 1) ks h [encE e] none hl hk (by show 1 + _ ≤ _; omega)
  have p0 : lstF [encE e] h = .ok (.ref h.cs.length) (h.push (.lst [encE e])) := lstF_ap (by simp)
  have len : (h.push (.lst [encE e])).cs.length = h.cs.length + 1 := push_len
  refine ⟨Y, gY, ?_⟩
  rw [hx, eD_cons, show encE e :: eD (ks.flatMap exs) = [encE e] ++ eD (ks.flatMap exs) from rfl]
  rw [he] at *
  generalize hP : h.push (.lst [.tup [.str "apply", kd.d, .tup (ks.map encE), i.d]]) = P at *
  have fin := fun N => ret_last (X := Y) (c := .lst ([.tup [.str "apply", kd.d, .tup (ks.map encE), i.d]] ++ eD (ks.flatMap exs))) (N := N)
  generalize hQ : Y.push (.lst ([.tup [.str "apply", kd.d, .tup (ks.map encE), i.d]] ++ eD (ks.flatMap exs))) = Q at *
  generalize ks.map encE = KS at *
  unfold s_expressions_in
  simp [p0, len, lo, fin, -lstF_ap, -push_ap, -fin_ret]
theorem exs_leaf {r : Fn} {e : Ex} {t : Str} {ds : List D} (he : encE e = .tup (.str t :: ds)) (h1 : (t = "pick") = False) (h2 : (t = "apply") = False) (h3 : (t = "guard") = False) (hx : exs e = [e]) : ExOk (runF (s_expressions_in r) 1 3) e := fun h hl => by
  refine ⟨h, .refl, ?_⟩
  rw [hx, eD_cons, he]
  have p0 : lstF [.tup (.str t :: ds)] h = .ok (.ref h.cs.length) (h.push (.lst [.tup (.str t :: ds)])) := lstF_ap (by simp)
  have fin := fun N => ret_last (X := h) (c := .lst (.tup (.str t :: ds) :: eD [])) (N := N)
  show _ = Res.ok _ (h.push (.lst [.tup (.str t :: ds)]))
  have fin : ∀ N, (Out.ret (.ref h.cs.length) (h.push (.lst [.tup (.str t :: ds)]))).fin N = .ok (.ref h.cs.length) (h.push (.lst [.tup (.str t :: ds)])) := fin
  generalize h.push (.lst [.tup (.str t :: ds)]) = P at *
  unfold s_expressions_in
  simp [p0, h1, h2, h3, fin, -lstF_ap, -push_ap, -fin_ret]
theorem exs_pick {r : Fn} {k : Nat} {f s c : Op} {e : Ex} (he : ExOk r e) (ln : (exs e).length ≤ 1000000) : ExOk (runF (s_expressions_in r) 1 3) (.pick k f s c e) := fun h hl => by
  obtain ⟨X, gX, eX⟩ := he (h.push (.lst [encE (.pick k f s c e)])) (by rw [push_len, push_lim]; omega)
  have ad := add_rec (L := eD (exs e)) push_at gX (by rw [eD_len]; simp; omega)
  have p0 : lstF [encE (.pick k f s c e)] h = .ok (.ref h.cs.length) (h.push (.lst [encE (.pick k f s c e)])) := lstF_ap (by simp)
  refine ⟨X.push (.lst (eD (exs e))), ((Grow.refl.push _).trans gX).push _, ?_⟩
  rw [show exs (.pick k f s c e) = [.pick k f s c e] ++ exs e from rfl, eD_app, push_len]
  have fin := fun N => ret_last (X := X.push (.lst (eD (exs e)))) (c := .lst ([encE (.pick k f s c e)] ++ eD (exs e))) (N := N)
  rw [push_len] at fin
  show _ = Res.ok _ ((X.push (.lst (eD (exs e)))).push (.lst ([encE (.pick k f s c e)] ++ eD (exs e))))
  generalize (X.push (.lst (eD (exs e)))).push (.lst ([encE (.pick k f s c e)] ++ eD (exs e))) = Q at *
  generalize X.push (.lst (eD (exs e))) = Y at *
  generalize h.push (.lst [encE (.pick k f s c e)]) = P at *
  unfold encE at p0 ⊢
  unfold s_expressions_in
  simp [p0, eX, ad, fin, -lstF_ap, -push_ap, -fin_ret]
theorem exs_guard {r : Fn} {t : Op} {a b : Ex} (ha : ExOk r a) (hb : ExOk r b) (ln : (exs a).length + (exs b).length ≤ 1000000) : ExOk (runF (s_expressions_in r) 1 3) (.guard t a b) := fun h hl => by
  obtain ⟨X, gX, eX⟩ := ha (h.push (.lst [encE (.guard t a b)])) (by rw [push_len, push_lim]; omega)
  have ad := add_rec (L := eD (exs a)) push_at gX (by rw [eD_len]; simp; omega)
  have gX1 := ((Grow.refl (h := h)).push (.lst [encE (.guard t a b)])).trans gX
  have gX2 := (gX1.push (.lst (eD (exs a)))).push (.lst ([encE (.guard t a b)] ++ eD (exs a)))
  obtain ⟨Y, gY, eY⟩ := hb _ (gX2.ok hl)
  have ad2 := add_rec (Z := (X.push (.lst (eD (exs a)))).push (.lst ([encE (.guard t a b)] ++ eD (exs a)))) (M := X.cs.length + 1) (fs := [encE (.guard t a b)] ++ eD (exs a)) (L := eD (exs b)) (by
    have := push_at (h := X.push (.lst (eD (exs a)))) (c := .lst ([encE (.guard t a b)] ++ eD (exs a)))
    rw [push_len] at this
    exact this) gY (by rw [List.length_append, eD_len, eD_len]; simp; omega)
  have p0 : lstF [encE (.guard t a b)] h = .ok (.ref h.cs.length) (h.push (.lst [encE (.guard t a b)])) := lstF_ap (by simp)
  refine ⟨Y.push (.lst (eD (exs b))), (gX2.trans gY).push _, ?_⟩
  rw [show exs (.guard t a b) = ([.guard t a b] ++ exs a) ++ exs b from rfl, eD_app, eD_app, push_len]
  have fin := fun N => ret_last (X := Y.push (.lst (eD (exs b)))) (c := .lst (([encE (.guard t a b)] ++ eD (exs a)) ++ eD (exs b))) (N := N)
  rw [push_len] at fin
  show _ = Res.ok _ ((Y.push (.lst (eD (exs b)))).push (.lst (([encE (.guard t a b)] ++ eD (exs a)) ++ eD (exs b))))
  generalize (Y.push (.lst (eD (exs b)))).push (.lst (([encE (.guard t a b)] ++ eD (exs a)) ++ eD (exs b))) = Q at *
  generalize Y.push (.lst (eD (exs b))) = Y1 at *
  generalize (X.push (.lst (eD (exs a)))).push (.lst ([encE (.guard t a b)] ++ eD (exs a))) = X2 at *
  generalize X.push (.lst (eD (exs a))) = X1 at *
  generalize h.push (.lst [encE (.guard t a b)]) = P at *
  unfold encE at p0 ⊢
  unfold s_expressions_in
  simp [p0, eX, ad, eY, ad2, fin, -lstF_ap, -push_ap, -fin_ret]
theorem exs_ap : ∀ (e : Ex) (k : Nat), dpt e ≤ k → (exs e).length ≤ 1000000 → ExOk (f_expressions_in (k + 1)) e
  | .num o, k, _, _ => exs_leaf (t := "number") rfl (by simp) (by simp) (by simp) rfl
  | .idx o, k, _, _ => exs_leaf (t := "index") rfl (by simp) (by simp) (by simp) rfl
  | .load j f, k, _, _ => exs_leaf (t := "load") rfl (by simp) (by simp) (by simp) rfl
  | .pick j f s c e, k, hd, ln => by
    have hd' : dpt e + 1 ≤ k := hd
    have ln' : (exs e).length + 1 ≤ 1000000 := ln
    obtain ⟨k, rfl⟩ : ∃ j, k = j + 1 := ⟨k - 1, by omega⟩
    exact exs_pick (exs_ap e k (by omega) (by omega)) (by omega)
  | .guard t a b, k, hd, ln => by
    have hd' : max (dpt a) (dpt b) + 1 ≤ k := hd
    have ln' : (exs a ++ exs b).length + 1 ≤ 1000000 := ln
    rw [List.length_append] at ln'
    obtain ⟨k, rfl⟩ : ∃ j, k = j + 1 := ⟨k - 1, by omega⟩
    exact exs_guard (exs_ap a k (by omega) (by omega)) (exs_ap b k (by omega) (by omega)) (by omega)
  | .app1 kd i a, k, hd, ln => by
    have hd' : dpt a + 1 ≤ k := hd
    have ln' : (exs a).length + 1 ≤ 1000000 := ln
    obtain ⟨k, rfl⟩ : ∃ j, k = j + 1 := ⟨k - 1, by omega⟩
    have ha := exs_ap a k (by omega) (by omega)
    exact exs_kids (ks := [a]) (kd := kd) (i := i) rfl (by show _ = _ :: ([a].flatMap exs); simp [exs]) (fun x hx => by rw [List.mem_singleton.mp hx]; exact ha) ln
  | .app2 kd i a b, k, hd, ln => by
    have hd' : max (dpt a) (dpt b) + 1 ≤ k := hd
    have ln' : (exs a ++ exs b).length + 1 ≤ 1000000 := ln
    rw [List.length_append] at ln'
    obtain ⟨k, rfl⟩ : ∃ j, k = j + 1 := ⟨k - 1, by omega⟩
    have ha := exs_ap a k (by omega) (by omega)
    have hb := exs_ap b k (by omega) (by omega)
    exact exs_kids (ks := [a, b]) (kd := kd) (i := i) rfl (by simp [exs]) (fun x hx => by
      rcases List.mem_cons.mp hx with e | e
      · rw [e]; exact ha
      · rw [List.mem_singleton.mp e]; exact hb) ln
  | .app3 kd i a b c, k, hd, ln => by
    have hd' : max (dpt a) (max (dpt b) (dpt c)) + 1 ≤ k := hd
    have ln' : (exs a ++ (exs b ++ exs c)).length + 1 ≤ 1000000 := ln
    rw [List.length_append, List.length_append] at ln'
    obtain ⟨k, rfl⟩ : ∃ j, k = j + 1 := ⟨k - 1, by omega⟩
    have ha := exs_ap a k (by omega) (by omega)
    have hb := exs_ap b k (by omega) (by omega)
    have hc := exs_ap c k (by omega) (by omega)
    exact exs_kids (ks := [a, b, c]) (kd := kd) (i := i) rfl (by simp [exs]) (fun x hx => by
      rcases List.mem_cons.mp hx with e | e
      · rw [e]; exact ha
      · rcases List.mem_cons.mp e with e | e
        · rw [e]; exact hb
        · rw [List.mem_singleton.mp e]; exact hc) ln
/-! ### which buffers an expression reads -/
def bufI : Ex → Option Int
  | .load k _ => some (k : Int)
  | .pick k _ _ _ _ => some (k : Int)
  | _ => none
def occ (k : Int) (e : Ex) : Bool := (exs e).any fun x => decide (bufI x = some k)
theorem bls_map : ∀ bs : List Bool, blsOf (bs.map D.bl) = some bs
  | [] => rfl
  | b :: bs => by
    show (match blsOf (bs.map D.bl) with | some l => some (b :: l) | none => none) = _
    rw [bls_map bs]
theorem any_ap {h : PH} {n : Nat} {bs : List Bool} (hn : h.at n = some (.lst (bs.map D.bl))) : anyF (.ref n) h = .ok (.bl (bs.any id)) h := by
  show (match itemsL h (.ref n) with | some ds => (match blsOf ds with | some bs => Res.ok (D.bl (bs.any id)) h | none => .stuck) | none => .stuck) = _
  rw [itemsL_ref, hn]
  show (match blsOf (bs.map D.bl) with | some bs => Res.ok (D.bl (bs.any id)) h | none => .stuck) = _
  rw [bls_map]
def InOk (r : Fn) (k : Int) (e : Ex) : Prop := ∀ h : PH, h.lim ≤ h.cs.length → r [encE e, .int k] h = .ok (.bl (occ k e)) h
theorem in_kids {r : Fn} {k : Int} {h : PH} {x0 : Option D} (hl : h.lim ≤ h.cs.length) : ∀ ks : List Ex, (∀ x ∈ ks, InOk r k x) → compV (.one 2) yesT (e__law_in_expr_0 r) [x0, some (.int k), none] (ks.map encE) h = .ok ((ks.map (occ k)).map D.bl) h := by
  intro ks
  induction ks with
  | nil => intro _; rfl
  | cons x ks ih =>
    intro hk
    have ih := ih fun y hy => hk y (List.mem_cons_of_mem _ hy)
    have el : e__law_in_expr_0 r [x0, some (.int k), some (encE x)] h = .ok (.bl (occ k x)) h := by
      have := hk x List.mem_cons_self h hl
      unfold e__law_in_expr_0
      simp [this]
    rw [List.map_cons, compV_cons, tgt_one, compT_some, yesT_ap, cp1_true]
    show (e__law_in_expr_0 r [x0, some (.int k), some (encE x)] h).cp2 _ _ _ _ _ _ = _
    rw [el, cp2_ok, cut_max, ih]
    rfl
theorem any_occ {k : Int} : ∀ ks : List Ex, (ks.map (occ k)).any id = (ks.flatMap exs).any fun x => decide (bufI x = some k)
  | [] => rfl
  | x :: ks => by
    rw [List.map_cons, List.any_cons, any_occ ks, List.flatMap_cons, List.any_append]
    rfl
theorem in_app {r : Fn} {k : Int} {e : Ex} {ks : List Ex} {kd i : Op} (he : encE e = .tup [.str "apply", kd.d, .tup (ks.map encE), i.d]) (hx : exs e = e :: ks.flatMap exs) (hb : bufI e = none) (hk : ∀ x ∈ ks, InOk r k x) (l3 : ks.length ≤ 3) : InOk (runF (s__law_in_expr r) 2 3) k e := fun h hl => by
  have co := in_kids (x0 := some (encE e)) hl ks hk
  have le : ((ks.map (occ k)).map D.bl).length ≤ 16777216 := by rw [List.length_map, List.length_map]; omega
  have an := any_ap (h := h.push (.lst ((ks.map (occ k)).map D.bl))) (n := h.cs.length) push_at
  have ct : (h.push (.lst ((ks.map (occ k)).map D.bl))).cut h.cs.length = h := by rw [push_cut (Nat.le_refl _), cut_len]
  have lm : (h.push (.lst ((ks.map (occ k)).map D.bl))).lim = h.lim := rfl
  have mx : max h.cs.length h.lim = h.cs.length := by omega
  have oc : occ k e = (ks.map (occ k)).any id := by
    rw [any_occ]
    unfold occ
    rw [hx, List.any_cons, hb]
    rfl
  have src : ∀ h, srcF (.tup (ks.map encE)) h = .ok (.vals (ks.map encE)) h := fun h => rfl
  rw [oc]
  rw [he] at co ⊢
  generalize (ks.map (occ k)).any id = B at *
  generalize hP : h.push (.lst ((ks.map (occ k)).map D.bl)) = P at *
  generalize (ks.map (occ k)).map D.bl = BL at *
  generalize ks.map encE = KS at *
  unfold s__law_in_expr
  simp [src, co, le, hP, an, ct, lm, mx, -push_ap]
theorem in_ap : ∀ (e : Ex) (n : Nat) (k : Int), dpt e ≤ n → InOk (f__law_in_expr (n + 1)) k e
  | .num o, n, k, _ => fun h hl => by
    have mx : max h.cs.length h.lim = h.cs.length := by omega
    show runF (s__law_in_expr (f__law_in_expr n)) 2 3 [.tup [.str "number", o.d], .int k] h = .ok (.bl false) h
    unfold s__law_in_expr
    simp [mx, cut_len]
  | .idx o, n, k, _ => fun h hl => by
    have mx : max h.cs.length h.lim = h.cs.length := by omega
    show runF (s__law_in_expr (f__law_in_expr n)) 2 3 [.tup [.str "index", o.d], .int k] h = .ok (.bl false) h
    unfold s__law_in_expr
    simp [mx, cut_len]
  | .load j f, n, k, _ => fun h hl => by
    have mx : max h.cs.length h.lim = h.cs.length := by omega
    have oc : occ k (.load j f) = decide ((j : Int) = k) := by
      show (decide (some (j : Int) = some k) || false) = _
      simp
    show runF (s__law_in_expr (f__law_in_expr n)) 2 3 [.tup [.str "load", .int (j : Int), f.d], .int k] h = _
    rw [oc]
    unfold s__law_in_expr
    simp [mx, cut_len]
  | .pick j f s c e, n, k, hd => fun h hl => by
    have hd' : dpt e + 1 ≤ n := hd
    obtain ⟨n, rfl⟩ : ∃ m, n = m + 1 := ⟨n - 1, by omega⟩
    have ih := in_ap e n k (by omega) h hl
    have mx : max h.cs.length h.lim = h.cs.length := by omega
    have oc : occ k (.pick j f s c e) = (decide ((j : Int) = k) || occ k e) := by
      show (decide (some (j : Int) = some k) || occ k e) = _
      simp
    show runF (s__law_in_expr (f__law_in_expr (n + 1))) 2 3 [.tup [.str "pick", .int (j : Int), f.d, s.d, c.d, encE e], .int k] h = _
    rw [oc]
    unfold s__law_in_expr
    cases q : decide ((j : Int) = k) with
    | true =>
      have q' : (j : Int) = k := of_decide_eq_true q
      simp [q', mx, cut_len]
    | false =>
      have q' : ¬ (j : Int) = k := of_decide_eq_false q
      simp [q', ih, mx, cut_len]
  | .guard t a b, n, k, hd => fun h hl => by
    have hd' : max (dpt a) (dpt b) + 1 ≤ n := hd
    obtain ⟨n, rfl⟩ : ∃ m, n = m + 1 := ⟨n - 1, by omega⟩
    have ia := in_ap a n k (by omega) h hl
    have ib := in_ap b n k (by omega) h hl
    have mx : max h.cs.length h.lim = h.cs.length := by omega
    have oc : occ k (.guard t a b) = (occ k a || occ k b) := by
      show (false || ((exs a ++ exs b).any fun x => decide (bufI x = some k))) = _
      rw [List.any_append]; rfl
    show runF (s__law_in_expr (f__law_in_expr (n + 1))) 2 3 [.tup [.str "guard", t.d, encE a, encE b], .int k] h = _
    rw [oc]
    generalize occ k b = ob at *
    generalize occ k a = oa at *
    unfold s__law_in_expr
    cases oa with
    | true => simp [ia, mx, cut_len]
    | false => simp [ia, ib, mx, cut_len]
  | .app1 kd i a, n, k, hd => by
    have hd' : dpt a + 1 ≤ n := hd
    obtain ⟨n, rfl⟩ : ∃ m, n = m + 1 := ⟨n - 1, by omega⟩
    have ia := in_ap a n k (by omega)
    exact in_app (ks := [a]) (kd := kd) (i := i) rfl (by simp [exs]) rfl (fun x hx => by rw [List.mem_singleton.mp hx]; exact ia) (by simp)
  | .app2 kd i a b, n, k, hd => by
    have hd' : max (dpt a) (dpt b) + 1 ≤ n := hd
    obtain ⟨n, rfl⟩ : ∃ m, n = m + 1 := ⟨n - 1, by omega⟩
    have ia := in_ap a n k (by omega)
    have ib := in_ap b n k (by omega)
    exact in_app (ks := [a, b]) (kd := kd) (i := i) rfl (by simp [exs]) rfl (fun x hx => by
      rcases List.mem_cons.mp hx with e | e
      · rw [e]; exact ia
      · rw [List.mem_singleton.mp e]; exact ib) (by simp)
  | .app3 kd i a b c, n, k, hd => by
    have hd' : max (dpt a) (max (dpt b) (dpt c)) + 1 ≤ n := hd
    obtain ⟨n, rfl⟩ : ∃ m, n = m + 1 := ⟨n - 1, by omega⟩
    have ia := in_ap a n k (by omega)
    have ib := in_ap b n k (by omega)
    have ic := in_ap c n k (by omega)
    exact in_app (ks := [a, b, c]) (kd := kd) (i := i) rfl (by simp [exs]) rfl (fun x hx => by
      rcases List.mem_cons.mp hx with e | e
      · rw [e]; exact ia
      · rcases List.mem_cons.mp e with e | e
        · rw [e]; exact ib
        · rw [List.mem_singleton.mp e]; exact ic) (by simp)
/-! ### statements -/
inductive St where
  | put (k : Nat) (f : Op) (e : Ex) | copy (a b : Nat) (f g c : Op)
  | loop1 (v s t c : Op) (a : St) | loop2 (v s t c : Op) (a b : St) | when1 (t : Op) (a : St) | when2 (t : Op) (a b : St)
def encS : St → D
  | .put k f e => .tup [.str "put", .int (k : Int), f.d, encE e]
  | .copy a b f g c => .tup [.str "copy", .int (a : Int), f.d, .int (b : Int), g.d, c.d]
  | .loop1 v s t c a => .tup [.str "loop", v.d, s.d, t.d, c.d, .tup [encS a]]
  | .loop2 v s t c a b => .tup [.str "loop", v.d, s.d, t.d, c.d, .tup [encS a, encS b]]
  | .when1 t a => .tup [.str "when", t.d, .tup [encS a]]
  | .when2 t a b => .tup [.str "when", t.d, .tup [encS a, encS b]]
theorem encS_mr : ∀ s : St, (encS s).mr = 0
  | .put k f e => by show max 0 (max 0 (max f.d.mr (max (encE e).mr 0))) = 0; rw [f.h, encE_mr]; rfl
  | .copy a b f g c => by show max 0 (max 0 (max f.d.mr (max 0 (max g.d.mr (max c.d.mr 0))))) = 0; rw [f.h, g.h, c.h]; rfl
  | .loop1 v s t c a => by show max 0 (max v.d.mr (max s.d.mr (max t.d.mr (max c.d.mr (max (max (encS a).mr 0) 0))))) = 0; rw [v.h, s.h, t.h, c.h, encS_mr a]; rfl
  | .loop2 v s t c a b => by show max 0 (max v.d.mr (max s.d.mr (max t.d.mr (max c.d.mr (max (max (encS a).mr (max (encS b).mr 0)) 0))))) = 0; rw [v.h, s.h, t.h, c.h, encS_mr a, encS_mr b]; rfl
  | .when1 t a => by show max 0 (max t.d.mr (max (max (encS a).mr 0) 0)) = 0; rw [t.h, encS_mr a]; rfl
  | .when2 t a b => by show max 0 (max t.d.mr (max (max (encS a).mr (max (encS b).mr 0)) 0)) = 0; rw [t.h, encS_mr a, encS_mr b]; rfl
def all : St → List St
  | .loop1 v s t c a => .loop1 v s t c a :: all a
  | .loop2 v s t c a b => .loop2 v s t c a b :: (all a ++ all b)
  | .when1 t a => .when1 t a :: all a
  | .when2 t a b => .when2 t a b :: (all a ++ all b)
  | s => [s]
def sub : St → List St
  | .loop1 _ _ _ _ a => [a]
  | .loop2 _ _ _ _ a b => [a, b]
  | .when1 _ a => [a]
  | .when2 _ a b => [a, b]
  | _ => []
def isB : St → Bool
  | .put _ _ _ => false
  | .copy _ _ _ _ _ => false
  | _ => true
def dpS : St → Nat
  | .loop1 _ _ _ _ a => dpS a + 1
  | .loop2 _ _ _ _ a b => max (dpS a) (dpS b) + 1
  | .when1 _ a => dpS a + 1
  | .when2 _ a b => max (dpS a) (dpS b) + 1
  | _ => 0
def sD (ss : List St) : List D := ss.map encS
theorem sD_mr {ss : List St} : mrL (sD ss) = 0 := by
  induction ss with
  | nil => rfl
  | cons x r ih => show max (encS x).mr (mrL (sD r)) = 0; rw [ih, encS_mr]; rfl
theorem sD_app {a b : List St} : sD (a ++ b) = sD a ++ sD b := List.map_append
theorem sD_len {a : List St} : (sD a).length = a.length := List.length_map _
theorem all_sub (s : St) : all s = s :: (sub s).flatMap all := by cases s <;> simp [all, sub]
/-- the head of a statement, its body -/
theorem st_head (s : St) (h : PH) : ∃ t, (∀ h, ixF (encS s) (.int 0) h = .ok (.str t) h) ∧ (∀ h, inF (.str t) (.tup [.str "loop", .str "when"]) h = .ok (.bl (isB s)) h) ∧ (isB s = true → ∀ h, ixF (encS s) (.int (-1)) h = .ok (.tup (sD (sub s))) h) := by
  cases s with
  | put k f e => exact ⟨"put", fun h => by unfold encS; simp, fun h => in_put, fun z => by cases z⟩
  | copy a b f g c => exact ⟨"copy", fun h => by unfold encS; simp, fun h => in_copy, fun z => by cases z⟩
  | loop1 v s t c a => exact ⟨"loop", fun h => by unfold encS; simp, fun h => in_loop, fun _ h => by unfold encS; rw [ixF_tupO, atm1_6]; rfl⟩
  | loop2 v s t c a b => exact ⟨"loop", fun h => by unfold encS; simp, fun h => in_loop, fun _ h => by unfold encS; rw [ixF_tupO, atm1_6]; rfl⟩
  | when1 t a => exact ⟨"when", fun h => by unfold encS; simp, fun h => in_when, fun _ h => by unfold encS; rw [ixF_tupO, atm1_3]; rfl⟩
  | when2 t a b => exact ⟨"when", fun h => by unfold encS; simp, fun h => in_when, fun _ h => by unfold encS; rw [ixF_tupO, atm1_3]; rfl⟩
theorem sub_none {s : St} (h : isB s = false) : sub s = [] := by cases s <;> first | rfl | cases h
def StOk (r : Fn) (ss : List St) : Prop := ∀ h : PH, h.lim ≤ h.cs.length → ∃ X, Grow h X ∧ r [.tup (sD ss)] h = .ok (.ref X.cs.length) (X.push (.lst (sD (ss.flatMap all))))
theorem sts_loop {r : Fn} {x0 : Option D} {l : Nat} : ∀ (ss : List St) (X : PH) (fs : List D) (x2 : Option D), X.lim ≤ X.cs.length → mrL fs = 0 → (∀ s ∈ ss, isB s = true → StOk r (sub s)) → fs.length + (ss.flatMap all).length ≤ 16000000 → ∃ (Y : PH) (x2' : Option D), Grow X Y ∧
    forV (.one 2) (b_statements_in_0 r) l (sD ss) [x0, some (.ref X.cs.length), x2] (X.push (.lst fs)) = .nxt [x0, some (.ref Y.cs.length), x2'] (Y.push (.lst (fs ++ sD (ss.flatMap all)))) := by
  intro ss
  induction ss with
  | nil => intro X fs x2 _ _ _ _; exact ⟨X, x2, .refl, by rw [show sD (List.flatMap all []) = [] from rfl, List.append_nil]; rfl⟩
  | cons s ss ih =>
    intro X fs x2 hl mf hk ln
    rw [List.flatMap_cons, List.length_append, all_sub s, List.length_cons] at ln
    have mf2 : mrL (fs ++ [encS s]) = 0 := by rw [mrL_append, mf]; show max 0 (max (encS s).mr 0) = 0; rw [encS_mr]; rfl
    obtain ⟨t, t1, t2, t3⟩ := st_head s X
    have ap := app_ap (h := X.push (.lst fs)) (n := X.cs.length) (d := encS s) push_at (by omega)
    rw [push_put1 (by show mrL (fs ++ [encS s]) ≤ _; rw [mf2]; exact Nat.zero_le _)] at ap
    have il := is_lst (h := X.push (.lst fs)) (n := X.cs.length) push_at
    obtain ⟨A, ab, gA, b⟩ : ∃ (A : PH) (fs' : List D), Grow X A ∧ fs' = fs ++ sD (all s) ∧ b_statements_in_0 r [x0, some (.ref X.cs.length), some (encS s)] (X.push (.lst fs)) = .nxt [x0, some (.ref A.cs.length), some (encS s)] (A.push (.lst fs')) := by
      cases q : isB s with
      | false =>
        rw [q] at t2
        refine ⟨X, fs ++ [encS s], .refl, by rw [all_sub, sub_none q]; rfl, ?_⟩
        generalize X.push (.lst fs) = X1 at *
        generalize X.push (.lst (fs ++ [encS s])) = X2 at *
        unfold b_statements_in_0
        simp [il, ap, t1, t2, -appF_refO, -ixF_tupO]
      | true =>
        rw [q] at t2
        have t3 := t3 q
        obtain ⟨A, gA, eA⟩ := hk s List.mem_cons_self q (X.push (.lst (fs ++ [encS s]))) (by rw [push_len, push_lim]; omega)
        have ad := add_rec (Z := X.push (.lst (fs ++ [encS s]))) (X := A) (M := X.cs.length) (fs := fs ++ [encS s]) (L := sD ((sub s).flatMap all)) push_at gA (by rw [List.length_append, sD_len]; have : [encS s].length = 1 := rfl; omega)
        refine ⟨A.push (.lst (sD ((sub s).flatMap all))), (fs ++ [encS s]) ++ sD ((sub s).flatMap all), ((Grow.refl.push _).trans gA).push _, by rw [all_sub, List.append_assoc]; rfl, ?_⟩
        rw [push_len]
        generalize (A.push (.lst (sD ((sub s).flatMap all)))).push (.lst ((fs ++ [encS s]) ++ sD ((sub s).flatMap all))) = G at *
        generalize A.push (.lst (sD ((sub s).flatMap all))) = A1 at *
        generalize X.push (.lst fs) = X1 at *
        generalize X.push (.lst (fs ++ [encS s])) = X2 at *
        unfold b_statements_in_0
        simp [il, ap, t1, t2, t3, eA, ad, -appF_refO, -ixF_tupO]
    obtain ⟨e2, b⟩ := b
    subst e2
    obtain ⟨Y, x2', gY, w⟩ := ih A (fs ++ sD (all s)) (some (encS s)) (gA.ok hl) (by rw [mrL_append, mf, sD_mr]; rfl) (fun s' h' => hk s' (List.mem_cons_of_mem _ h')) (by rw [List.length_append, sD_len, all_sub, List.length_cons]; omega)
    refine ⟨Y, x2', gA.trans gY, ?_⟩
    show forV (.one 2) (b_statements_in_0 r) l (encS s :: sD ss) _ _ = _
    rw [forV_cons, tgt_one, tgtO_some]
    show (b_statements_in_0 r [x0, some (.ref X.cs.length), some (encS s)] (X.push (.lst fs))).nextV _ _ _ _ = _
    rw [b, nextV_nxt, gc_last (i := 1) rfl, w, List.append_assoc, List.flatMap_cons, sD_app]
theorem sts_run {r : Fn} {ss : List St} (hk : ∀ s ∈ ss, isB s = true → StOk r (sub s)) (ln : (ss.flatMap all).length ≤ 1000000) : StOk (runF (s_statements_in r) 1 3) ss := fun h hl => by
  obtain ⟨Y, x2', gY, lo⟩ := sts_loop (x0 := some (.tup (sD ss))) (l := h.cs.length + 1) ss h [] none hl rfl hk (by show 0 + _ ≤ _; omega)
  rw [List.nil_append] at lo
  have p0 : lstF [] h = .ok (.ref h.cs.length) (h.push (.lst [])) := lstF_ap (by simp)
  have len : (h.push (.lst [])).cs.length = h.cs.length + 1 := push_len
  refine ⟨Y, gY, ?_⟩
  have fin := fun N => ret_last (X := Y) (c := .lst (sD (ss.flatMap all))) (N := N)
  have src : ∀ h, srcF (.tup (sD ss)) h = .ok (.vals (sD ss)) h := fun h => rfl
  generalize h.push (.lst []) = P at *
  generalize Y.push (.lst (sD (ss.flatMap all))) = Q at *
  generalize sD ss = S at *
  unfold s_statements_in
  simp [p0, len, src, lo, fin, -lstF_ap, -push_ap, -fin_ret]
theorem sts_ap : ∀ (n : Nat) (ss : List St), (∀ s ∈ ss, dpS s ≤ n) → (ss.flatMap all).length ≤ 1000000 → StOk (f_statements_in (n + 1)) ss := by
  intro n
  induction n with
  | zero =>
    intro ss hd ln
    refine sts_run (fun s hs q => ?_) ln
    have := hd s hs
    cases s with
    | put => cases q
    | copy => cases q
    | loop1 => simp [dpS] at this
    | loop2 => simp [dpS] at this
    | when1 => simp [dpS] at this
    | when2 => simp [dpS] at this
  | succ n ih =>
    intro ss hd ln
    refine sts_run (fun s hs q => ih (sub s) (fun x hx => ?_) ?_) ln
    · have := hd s hs
      cases s with
      | put => cases q
      | copy => cases q
      | loop1 v s t c a => simp [sub] at hx; simp [dpS] at this; subst hx; omega
      | loop2 v s t c a b => simp [sub] at hx; simp [dpS] at this; rcases hx with rfl | rfl <;> omega
      | when1 t a => simp [sub] at hx; simp [dpS] at this; subst hx; omega
      | when2 t a b => simp [sub] at hx; simp [dpS] at this; rcases hx with rfl | rfl <;> omega
    · have m : (all s).length ≤ (ss.flatMap all).length := by
        clear ih hd
        induction ss with
        | nil => cases hs
        | cons y ys ihh =>
          rw [List.flatMap_cons, List.length_append] at *
          rcases List.mem_cons.mp hs with e | e
          · subst e; omega
          · have := ihh (by omega) e; omega
      rw [all_sub, List.length_cons] at m
      omega
/-! ### a comprehension over a list that stays -/
theorem compL_cell {h : PH} {n : Nat} {ds : List D} {t : Tgt} {tst : TM} {elt : EM} {e0 : Dy.Env} {p : D → Bool} {g : D → D} (hn : h.at n = some (.lst ds)) (H : ∀ d ∈ ds, ∃ e1, tgt t d e0 h = some e1 ∧ tst e1 h = .ok (p d) h ∧ (p d = true → elt e1 h = .ok (g d) h)) : ∀ (f i : Nat), i + f = ds.length + 1 → i ≤ ds.length → compL t tst elt (.cell n) e0 f i h = .ok (((ds.drop i).filter p).map g) h := by
  intro f
  induction f with
  | zero => intro i q z; omega
  | succ f ih =>
    intro i q z
    by_cases hi : i < ds.length
    · have e9 : ds[i]? = some ds[i] := List.getElem?_eq_getElem hi
      obtain ⟨e1, h1, h2, h3⟩ := H ds[i] (List.getElem_mem hi)
      have r := ih (i + 1) (by omega) (by omega)
      rw [List.drop_eq_getElem_cons hi, compL, item_cell (show h.cs[n]? = some (.lst ds) from hn), e9]
      simp only [h1, h2, bind_ok]
      cases q : p ds[i] with
      | true =>
        simp only [h3 q, bind_ok, cut_max, r, List.filter_cons_of_pos q]
        rfl
      | false =>
        simp only [cut_max, r, List.filter_cons_of_neg (show ¬ p ds[i] = true by simp [q])]
    · have ei : i = ds.length := by omega
      subst ei
      rw [compL, item_cell (show h.cs[n]? = some (.lst ds) from hn), List.getElem?_eq_none (by omega), List.drop_eq_nil_of_le (Nat.le_refl _)]
      rfl
theorem cm_cell {h : PH} {n : Nat} {ds : List D} {own : List Nat} {t : Tgt} {tst : TM} {elt : EM} {e : Dy.Env} {p : D → Bool} {g : D → D} (hn : h.at n = some (.lst ds)) (l : ds.length ≤ 16777216) (H : ∀ d ∈ ds, ∃ e1, tgt t d (wipeE e own) h = some e1 ∧ tst e1 h = .ok (p d) h ∧ (p d = true → elt e1 h = .ok (g d) h)) :
    (Res.ok (.cell n) h).cm own t tst elt e = .ok (.ref h.cs.length) (h.push (.lst ((ds.filter p).map g))) := by
  have fu : (Src.cell n).fuel h = ds.length + 1 := by
    show (match h.cs[n]? with | some (.lst ds) => ds.length + 1 | _ => 0) = _
    rw [show h.cs[n]? = some (.lst ds) from hn]
  have c := compL_cell hn H (ds.length + 1) 0 (by omega) (Nat.zero_le _)
  rw [List.drop_zero] at c
  have le : ((ds.filter p).map g).length ≤ 16777216 := by
    rw [List.length_map]
    exact Nat.le_trans (List.length_filter_le _ _) l
  show (noX (compL t tst elt (.cell n) (wipeE e own) ((Src.cell n).fuel h) 0 h)).bind finL = _
  rw [fu, c]
  exact fl_ok le
/-! ### the buffers of a statement -/
def iD (ns : List Int) : List D := ns.map D.int
theorem iD_mr {ns : List Int} : mrL (iD ns) = 0 := mrL_ints ns
theorem iD_len {ns : List Int} : (iD ns).length = ns.length := List.length_map _
theorem iD_app {a b : List Int} : iD (a ++ b) = iD a ++ iD b := List.map_append
def bufs1 : St → List Int
  | .put k _ e => (k : Int) :: (exs e).filterMap bufI
  | .copy a b _ _ _ => [(a : Int), (b : Int)]
  | _ => []
def bufs (s : St) : List Int := (all s).flatMap bufs1
def pLP : D → Bool
  | .tup (.str t :: _) => decide (t = "load") || decide (t = "pick")
  | _ => false
def gLP : D → D
  | .tup (_ :: k :: _) => k
  | _ => .non
theorem lp_filter : ∀ es : List Ex, ((eD es).filter pLP).map gLP = iD (es.filterMap bufI)
  | [] => rfl
  | e :: es => by
    have ih := lp_filter es
    show ((encE e :: eD es).filter pLP).map gLP = _
    have y : (bufI e = none ∧ pLP (encE e) = false) ∨ ∃ k, bufI e = some k ∧ pLP (encE e) = true ∧ gLP (encE e) = .int k := by
      cases e with
      | num => exact .inl ⟨rfl, by simp [encE, pLP]⟩
      | idx => exact .inl ⟨rfl, by simp [encE, pLP]⟩
      | load k f => exact .inr ⟨_, rfl, by simp [encE, pLP], rfl⟩
      | pick k => exact .inr ⟨_, rfl, by simp [encE, pLP], rfl⟩
      | guard => exact .inl ⟨rfl, by simp [encE, pLP]⟩
      | app1 => exact .inl ⟨rfl, by simp [encE, pLP]⟩
      | app2 => exact .inl ⟨rfl, by simp [encE, pLP]⟩
      | app3 => exact .inl ⟨rfl, by simp [encE, pLP]⟩
    rcases y with ⟨y1, y2⟩ | ⟨k, y1, y2, y3⟩
    · rw [List.filter_cons_of_neg (by simp [y2]), List.filterMap_cons_none y1, ih]
    · rw [List.filter_cons_of_pos y2, List.map_cons, y3, List.filterMap_cons_some y1, ih]; rfl
theorem ex_head (e : Ex) : ∃ t, (∀ h, ixF (encE e) (.int 0) h = .ok (.str t) h) ∧ (∀ h, inF (.str t) (.tup [.str "load", .str "pick"]) h = .ok (.bl (pLP (encE e))) h) ∧ (pLP (encE e) = true → ∀ h, ixF (encE e) (.int 1) h = .ok (gLP (encE e)) h) := by
  cases e with
  | num o => exact ⟨"number", fun h => by simp [encE], fun h => by rw [lp_number]; simp [encE, pLP], fun z => by simp [encE, pLP] at z⟩
  | idx o => exact ⟨"index", fun h => by simp [encE], fun h => by rw [lp_index]; simp [encE, pLP], fun z => by simp [encE, pLP] at z⟩
  | load k f => exact ⟨"load", fun h => by simp [encE], fun h => by rw [lp_load]; simp [encE, pLP], fun z h => by simp [encE, gLP]⟩
  | pick k f s c e => exact ⟨"pick", fun h => by simp [encE], fun h => by rw [lp_pick]; simp [encE, pLP], fun z h => by simp [encE, gLP]⟩
  | guard t a b => exact ⟨"guard", fun h => by simp [encE], fun h => by rw [lp_guard]; simp [encE, pLP], fun z => by simp [encE, pLP] at z⟩
  | app1 kd i a => exact ⟨"apply", fun h => by simp [encE], fun h => by rw [lp_apply]; simp [encE, pLP], fun z => by simp [encE, pLP] at z⟩
  | app2 kd i a b => exact ⟨"apply", fun h => by simp [encE], fun h => by rw [lp_apply]; simp [encE, pLP], fun z => by simp [encE, pLP] at z⟩
  | app3 kd i a b c => exact ⟨"apply", fun h => by simp [encE], fun h => by rw [lp_apply]; simp [encE, pLP], fun z => by simp [encE, pLP] at z⟩
def okE (e : Ex) : Prop := dpt e ≤ 11 ∧ (exs e).length ≤ 1000000
def okS1 : St → Prop
  | .put _ _ e => okE e
  | _ => True
theorem fm_le {e : Ex} : ((exs e).filterMap bufI).length ≤ (exs e).length := List.length_filterMap_le _ _
/-- one inner statement -/
theorem buf_body {s : St} {X : PH} {fs : List Int} {x0 x3 : Option D} (hs : okS1 s) (hl : X.lim ≤ X.cs.length) (ln : fs.length + (bufs1 s).length ≤ 16000000) : ∃ Y x3', Grow X Y ∧ b_buffers_in_0 [x0, some (.ref X.cs.length), some (encS s), x3] (X.push (.lst (iD fs))) = .nxt [x0, some (.ref Y.cs.length), some (encS s), x3'] (Y.push (.lst (iD (fs ++ bufs1 s)))) := by
  cases s with
  | put k f e =>
    have lb : (bufs1 (.put k f e)).length = ((exs e).filterMap bufI).length + 1 := rfl
    obtain ⟨hd, hx⟩ := hs
    have ap := app_ap (h := X.push (.lst (iD fs))) (n := X.cs.length) (d := .int (k : Int)) push_at (by rw [iD_len]; omega)
    rw [show iD fs ++ [D.int (k : Int)] = iD (fs ++ [(k : Int)]) by rw [iD_app]; rfl, push_put1 (by show mrL (iD (fs ++ [(k : Int)])) ≤ _; rw [iD_mr]; exact Nat.zero_le _)] at ap
    have il := is_lst (h := X.push (.lst (iD fs))) (n := X.cs.length) push_at
    obtain ⟨A, gA, eA⟩ := exs_ap e 11 hd hx (X.push (.lst (iD (fs ++ [(k : Int)])))) (by rw [push_len, push_lim]; omega)
    have ca := cm_cell (h := A.push (.lst (eD (exs e)))) (n := A.cs.length) (own := [3]) (t := .one 3) (tst := t_buffers_in_1) (elt := e_buffers_in_1) (e := [x0, some (.ref X.cs.length), some (encS (.put k f e)), x3]) (p := pLP) (g := gLP) push_at (by rw [eD_len]; omega) (fun d hd => by
      obtain ⟨x, _, rfl⟩ := List.mem_map.mp hd
      obtain ⟨t, t1, t2, t3⟩ := ex_head x
      refine ⟨_, tgt_one, ?_, fun z => ?_⟩
      · unfold t_buffers_in_1
        simp [t1, t2, -ixF_tupO]
      · have t3 := t3 z
        unfold e_buffers_in_1
        simp [t3, -ixF_tupO])
    rw [lp_filter, push_len] at ca
    have gA2 : Grow (X.push (.lst (iD (fs ++ [(k : Int)])))) (A.push (.lst (eD (exs e)))) := gA.push _
    have ad := add_rec (Z := X.push (.lst (iD (fs ++ [(k : Int)])))) (X := A.push (.lst (eD (exs e)))) (M := X.cs.length) (fs := iD (fs ++ [(k : Int)])) (L := iD ((exs e).filterMap bufI)) push_at gA2 (by
      rw [iD_len, iD_len, List.length_append]
      have : [(k : Int)].length = 1 := rfl
      omega)
    rw [push_len, ← iD_app] at ad
    refine ⟨(A.push (.lst (eD (exs e)))).push (.lst (iD ((exs e).filterMap bufI))), x3, ((Grow.refl.push _).trans gA2).push _, ?_⟩
    have e9 : fs ++ bufs1 (.put k f e) = (fs ++ [(k : Int)]) ++ (exs e).filterMap bufI := by rw [List.append_assoc]; rfl
    rw [e9, push_len, push_len]
    have at2 : (A.push (.lst (eD (exs e)))).at A.cs.length = some (.lst (eD (exs e))) := push_at
    have sr : srcF (.ref A.cs.length) (A.push (.lst (eD (exs e)))) = .ok (.cell A.cs.length) (A.push (.lst (eD (exs e)))) := by rw [srcF_ref, at2]; rfl
    generalize ((A.push (.lst (eD (exs e)))).push (.lst (iD ((exs e).filterMap bufI)))).push (.lst (iD ((fs ++ [(k : Int)]) ++ (exs e).filterMap bufI))) = Q at *
    generalize (A.push (.lst (eD (exs e)))).push (.lst (iD ((exs e).filterMap bufI))) = A2 at *
    generalize A.push (.lst (eD (exs e))) = A1 at *
    generalize X.push (.lst (iD (fs ++ [(k : Int)]))) = X2 at *
    generalize X.push (.lst (iD fs)) = X1 at *
    unfold encS at ca ⊢
    unfold b_buffers_in_0
    simp [il, ap, eA, sr, ca, ad, -appF_refO, -srcF_ref]
  | copy a b f g c =>
    have p0 : lstF [.int (a : Int), .int (b : Int)] (X.push (.lst (iD fs))) = .ok (.ref (X.cs.length + 1)) ((X.push (.lst (iD fs))).push (.lst (iD [(a : Int), (b : Int)]))) := by rw [lstF_ap (by simp), push_len]; rfl
    have ad := add_rec (Z := X.push (.lst (iD fs))) (X := X.push (.lst (iD fs))) (M := X.cs.length) (fs := iD fs) (L := iD [(a : Int), (b : Int)]) push_at .refl (by rw [iD_len, iD_len]; have : [(a : Int), (b : Int)].length = 2 := rfl; have : (bufs1 (.copy a b f g c)).length = 2 := rfl; omega)
    rw [push_len, ← iD_app] at ad
    refine ⟨(X.push (.lst (iD fs))).push (.lst (iD [(a : Int), (b : Int)])), x3, (Grow.refl.push _).push _, ?_⟩
    rw [push_len, push_len, show bufs1 (.copy a b f g c) = [(a : Int), (b : Int)] from rfl]
    generalize ((X.push (.lst (iD fs))).push (.lst (iD [(a : Int), (b : Int)]))).push (.lst (iD (fs ++ [(a : Int), (b : Int)]))) = Q at *
    generalize (X.push (.lst (iD fs))).push (.lst (iD [(a : Int), (b : Int)])) = X2 at *
    generalize X.push (.lst (iD fs)) = X1 at *
    unfold encS b_buffers_in_0
    simp [p0, ad, -lstF_ap]
  | loop1 v s t c a =>
    refine ⟨X, x3, .refl, ?_⟩
    rw [show bufs1 (.loop1 v s t c a) = [] from rfl, List.append_nil]
    generalize X.push (.lst (iD fs)) = X1
    unfold encS b_buffers_in_0
    simp
  | loop2 v s t c a b =>
    refine ⟨X, x3, .refl, ?_⟩
    rw [show bufs1 (.loop2 v s t c a b) = [] from rfl, List.append_nil]
    generalize X.push (.lst (iD fs)) = X1
    unfold encS b_buffers_in_0
    simp
  | when1 t a =>
    refine ⟨X, x3, .refl, ?_⟩
    rw [show bufs1 (.when1 t a) = [] from rfl, List.append_nil]
    generalize X.push (.lst (iD fs)) = X1
    unfold encS b_buffers_in_0
    simp
  | when2 t a b =>
    refine ⟨X, x3, .refl, ?_⟩
    rw [show bufs1 (.when2 t a b) = [] from rfl, List.append_nil]
    generalize X.push (.lst (iD fs)) = X1
    unfold encS b_buffers_in_0
    simp
theorem buf_loop {Z : PH} {S l : Nat} {ss : List St} {x0 : Option D} (hS : Z.at S = some (.lst (sD ss))) (hs : ∀ s ∈ ss, okS1 s) (zl : Z.lim ≤ Z.cs.length) (ln : (ss.flatMap bufs1).length ≤ 1000000) : ∀ (m i : Nat) (X : PH) (fs : List Int) (x2 x3 : Option D), i + m = ss.length → Grow Z X → fs = (ss.take i).flatMap bufs1 →
    ∃ Y x2' x3', Grow Z Y ∧ forL (.one 2) b_buffers_in_0 (.cell S) l (m + 1) i [x0, some (.ref X.cs.length), x2, x3] (X.push (.lst (iD fs))) = .nxt [x0, some (.ref Y.cs.length), x2', x3'] (Y.push (.lst (iD (ss.flatMap bufs1)))) := by
  have it : ∀ (X : PH) (c : Cell), Grow Z X → (X.push c).cs[S]? = some (.lst (sD ss)) := fun X c g => by
    have q := at_lt hS
    show (X.push c).at S = _
    rw [push_lt (Nat.lt_of_lt_of_le q g.le), g.at_ q]; exact hS
  intro m
  induction m with
  | zero =>
    intro i X fs x2 x3 e g ef
    refine ⟨X, x2, x3, g, ?_⟩
    rw [forL_end (by rw [item_cell (it X _ g), List.getElem?_eq_none (by rw [sD_len]; omega)]), ef, List.take_of_length_le (by omega)]
  | succ m ih =>
    intro i X fs x2 x3 e g ef
    have hi : i < ss.length := by omega
    have gi : ss[i]? = some ss[i] := List.getElem?_eq_getElem hi
    have tk : ss.take (i + 1) = ss.take i ++ [ss[i]] := by rw [List.take_add_one, gi]; rfl
    have fe : fs ++ bufs1 ss[i] = (ss.take (i + 1)).flatMap bufs1 := by
      rw [tk, List.flatMap_append, ef]
      simp
    have fl : (fs ++ bufs1 ss[i]).length ≤ 1000000 := by
      rw [fe]
      have : ss.flatMap bufs1 = (ss.take (i + 1)).flatMap bufs1 ++ (ss.drop (i + 1)).flatMap bufs1 := by rw [← List.flatMap_append, List.take_append_drop]
      rw [this, List.length_append] at ln
      omega
    rw [List.length_append] at fl
    obtain ⟨Y, x3', gY, b⟩ := buf_body (s := ss[i]) (X := X) (fs := fs) (x0 := x0) (x3 := x3) (hs _ (List.getElem_mem hi)) (g.ok zl) (by omega)
    obtain ⟨W, x2', x3'', gW, w⟩ := ih (i + 1) Y (fs ++ bufs1 ss[i]) (some (encS ss[i])) x3' (by omega) (g.trans gY) fe
    refine ⟨W, x2', x3'', gW, ?_⟩
    rw [forL_go (d := encS ss[i]) (by rw [item_cell (it X _ g)]; unfold sD; rw [List.getElem?_map, gi]; rfl) tgt_one]
    show (b_buffers_in_0 [x0, some (.ref X.cs.length), some (encS ss[i]), x3] (X.push (.lst (iD fs)))).next _ _ _ _ _ _ = _
    rw [b, next_nxt, gc_last (i := 1) rfl, w]
def okS (s : St) : Prop := dpS s ≤ 10 ∧ (all s).length ≤ 1000000 ∧ (bufs s).length ≤ 1000000 ∧ ∀ x ∈ all s, okS1 x
def mid (h : PH) (c : Cell) (g : List Cell) : PH := ⟨h.cs ++ [c] ++ g, h.lim⟩
theorem mid_at {h : PH} {c : Cell} {g : List Cell} : (mid h c g).at h.cs.length = some c := by
  show (h.cs ++ [c] ++ g)[h.cs.length]? = _
  rw [List.append_assoc, List.getElem?_append_right (Nat.le_refl _), Nat.sub_self]; rfl
theorem mid_up {h : PH} {c : Cell} {g : List Cell} {n : Nat} : (mid h c g).at (h.cs.length + 1 + n) = g[n]? := by
  show (h.cs ++ [c] ++ g)[h.cs.length + 1 + n]? = _
  have e : (h.cs ++ [c]).length = h.cs.length + 1 := by rw [List.length_append]; rfl
  rw [List.getElem?_append_right (by omega), e]
  congr 1
  omega
theorem mid_put {h : PH} {c c' : Cell} {g : List Cell} (z : c'.mr ≤ h.cs.length) : (mid h c g).put h.cs.length c' = mid h c' g := by
  unfold PH.put
  rw [if_pos z]
  show PH.mk ((h.cs ++ [c] ++ g).set h.cs.length c') _ = PH.mk (h.cs ++ [c'] ++ g) _
  rw [List.append_assoc, List.append_assoc, List.set_append_right _ _ (Nat.le_refl _), Nat.sub_self]
  rfl
theorem mid_len {h : PH} {c : Cell} {g : List Cell} : (mid h c g).cs.length = h.cs.length + 1 + g.length := by
  show (h.cs ++ [c] ++ g).length = _
  rw [List.length_append, List.length_append]; rfl
theorem mid_grow {h : PH} {c : Cell} {g : List Cell} : Grow h (mid h c g) := ⟨[c] ++ g, by show PH.mk (h.cs ++ [c] ++ g) _ = _; rw [List.append_assoc]⟩
theorem grow_mid {h X : PH} {c : Cell} (a : Grow (h.push c) X) : ∃ g, X = mid h c g := by
  obtain ⟨g, rfl⟩ := a
  exact ⟨g, rfl⟩
theorem put_gen {H P : PH} {F k : Nat} {f : Op} {e : Ex} {fs : List Int} {x0 x3 : Option D} (hs : okE e) (hl : P.lim ≤ P.cs.length) (ln : fs.length + (bufs1 (.put k f e)).length ≤ 16000000) (hF : H.at F = some (.lst (iD fs))) (hP : H.put F (.lst (iD (fs ++ [(k : Int)]))) = P) (hP2 : P.at F = some (.lst (iD (fs ++ [(k : Int)])))) :
    ∃ Y, Grow P Y ∧ b_buffers_in_0 [x0, some (.ref F), some (encS (.put k f e)), x3] H = .nxt [x0, some (.ref Y.cs.length), some (encS (.put k f e)), x3] (Y.push (.lst (iD (fs ++ bufs1 (.put k f e))))) := by
  have lb : (bufs1 (.put k f e)).length = ((exs e).filterMap bufI).length + 1 := rfl
  obtain ⟨hd, hx⟩ := hs
  have ap := app_ap (d := .int (k : Int)) hF (by rw [iD_len]; omega)
  rw [show iD fs ++ [D.int (k : Int)] = iD (fs ++ [(k : Int)]) by rw [iD_app]; rfl, hP] at ap
  have il := is_lst hF
  obtain ⟨A, gA, eA⟩ := exs_ap e 11 hd hx P hl
  have ca := cm_cell (h := A.push (.lst (eD (exs e)))) (n := A.cs.length) (own := [3]) (t := .one 3) (tst := t_buffers_in_1) (elt := e_buffers_in_1) (e := [x0, some (.ref F), some (encS (.put k f e)), x3]) (p := pLP) (g := gLP) push_at (by rw [eD_len]; omega) (fun d hd => by
    obtain ⟨x, _, rfl⟩ := List.mem_map.mp hd
    obtain ⟨t, t1, t2, t3⟩ := ex_head x
    refine ⟨_, tgt_one, ?_, fun z => ?_⟩
    · unfold t_buffers_in_1
      simp [t1, t2, -ixF_tupO]
    · have t3 := t3 z
      unfold e_buffers_in_1
      simp [t3, -ixF_tupO])
  rw [lp_filter, push_len] at ca
  have gA2 : Grow P (A.push (.lst (eD (exs e)))) := gA.push _
  have ad := add_rec (Z := P) (X := A.push (.lst (eD (exs e)))) (M := F) (fs := iD (fs ++ [(k : Int)])) (L := iD ((exs e).filterMap bufI)) hP2 gA2 (by
    rw [iD_len, iD_len, List.length_append]
    have : [(k : Int)].length = 1 := rfl
    omega)
  rw [push_len, ← iD_app] at ad
  refine ⟨(A.push (.lst (eD (exs e)))).push (.lst (iD ((exs e).filterMap bufI))), gA2.push _, ?_⟩
  have e9 : fs ++ bufs1 (.put k f e) = (fs ++ [(k : Int)]) ++ (exs e).filterMap bufI := by rw [List.append_assoc]; rfl
  rw [e9, push_len, push_len]
  have at2 : (A.push (.lst (eD (exs e)))).at A.cs.length = some (.lst (eD (exs e))) := push_at
  have sr : srcF (.ref A.cs.length) (A.push (.lst (eD (exs e)))) = .ok (.cell A.cs.length) (A.push (.lst (eD (exs e)))) := by rw [srcF_ref, at2]; rfl
  generalize ((A.push (.lst (eD (exs e)))).push (.lst (iD ((exs e).filterMap bufI)))).push (.lst (iD ((fs ++ [(k : Int)]) ++ (exs e).filterMap bufI))) = Q at *
  generalize (A.push (.lst (eD (exs e)))).push (.lst (iD ((exs e).filterMap bufI))) = A2 at *
  generalize A.push (.lst (eD (exs e))) = A1 at *
  unfold encS at ca ⊢
  unfold b_buffers_in_0
  simp [il, ap, eA, sr, ca, ad, -appF_refO, -srcF_ref]
theorem copy_gen {H : PH} {F a b : Nat} {f g c : Op} {fs : List Int} {x0 x3 : Option D} (hl : H.lim ≤ H.cs.length) (ln : fs.length ≤ 1000000) (hF : H.at F = some (.lst (iD fs))) :
    ∃ Y, Grow H Y ∧ b_buffers_in_0 [x0, some (.ref F), some (encS (.copy a b f g c)), x3] H = .nxt [x0, some (.ref Y.cs.length), some (encS (.copy a b f g c)), x3] (Y.push (.lst (iD (fs ++ bufs1 (.copy a b f g c))))) := by
  have p0 : lstF [.int (a : Int), .int (b : Int)] H = .ok (.ref H.cs.length) (H.push (.lst (iD [(a : Int), (b : Int)]))) := by rw [lstF_ap (by simp)]; rfl
  have ad := add_rec (Z := H) (X := H) (M := F) (fs := iD fs) (L := iD [(a : Int), (b : Int)]) hF .refl (by rw [iD_len, iD_len]; have : [(a : Int), (b : Int)].length = 2 := rfl; omega)
  rw [← iD_app] at ad
  refine ⟨H.push (.lst (iD [(a : Int), (b : Int)])), Grow.refl.push _, ?_⟩
  rw [push_len, show bufs1 (.copy a b f g c) = [(a : Int), (b : Int)] from rfl]
  generalize (H.push (.lst (iD [(a : Int), (b : Int)]))).push (.lst (iD (fs ++ [(a : Int), (b : Int)]))) = Q at *
  generalize H.push (.lst (iD [(a : Int), (b : Int)])) = X2 at *
  unfold encS b_buffers_in_0
  simp [p0, ad, -lstF_ap]
theorem skip_gen {H : PH} {s : St} {x0 x1 x3 : Option D} (hb : isB s = true) : b_buffers_in_0 [x0, x1, some (encS s), x3] H = .nxt [x0, x1, some (encS s), x3] H ∧ bufs1 s = [] := by
  cases s with
  | put => cases hb
  | copy => cases hb
  | loop1 v s t c a => exact ⟨by unfold encS b_buffers_in_0; simp, rfl⟩
  | loop2 v s t c a b => exact ⟨by unfold encS b_buffers_in_0; simp, rfl⟩
  | when1 t a => exact ⟨by unfold encS b_buffers_in_0; simp, rfl⟩
  | when2 t a b => exact ⟨by unfold encS b_buffers_in_0; simp, rfl⟩
/-- from the beginning: found stands in the middle yet -/
theorem buf_start {h : PH} {g : List Cell} {S l : Nat} {ss : List St} {x0 : Option D} (hS : (mid h (.lst (iD [])) g).at (h.cs.length + 1 + S) = some (.lst (sD ss))) (hl : h.lim ≤ h.cs.length) (hs : ∀ s ∈ ss, okS1 s) (ln : (ss.flatMap bufs1).length ≤ 1000000) (hlen : l = (mid h (.lst (iD [])) g).cs.length) : ∀ (m i : Nat) (x2 x3 : Option D), i + m = ss.length → (ss.take i).flatMap bufs1 = [] →
    ∃ (Y : PH) (F : Nat) (x2' x3' : Option D), Grow h Y ∧ Y.at F = some (.lst (iD (ss.flatMap bufs1))) ∧ h.cs.length ≤ F ∧ forL (.one 2) b_buffers_in_0 (.cell (h.cs.length + 1 + S)) l (m + 1) i [x0, some (.ref h.cs.length), x2, x3] (mid h (.lst (iD [])) g) = .nxt [x0, some (.ref F), x2', x3'] Y := by
  intro m
  induction m with
  | zero =>
    intro i x2 x3 e ef
    refine ⟨mid h (.lst (iD [])) g, h.cs.length, x2, x3, mid_grow, ?_, Nat.le_refl _, ?_⟩
    · rw [List.take_of_length_le (by omega)] at ef
      rw [ef]; exact mid_at
    · rw [forL_end (by rw [item_cell hS, List.getElem?_eq_none (by rw [sD_len]; omega)])]
  | succ m ih =>
    intro i x2 x3 e ef
    have hi : i < ss.length := by omega
    have gi : ss[i]? = some ss[i] := List.getElem?_eq_getElem hi
    have tk : ss.take (i + 1) = ss.take i ++ [ss[i]] := by rw [List.take_add_one, gi]; rfl
    have fe : [] ++ bufs1 ss[i] = (ss.take (i + 1)).flatMap bufs1 := by rw [tk, List.flatMap_append, ef]; simp
    have fl : (bufs1 ss[i]).length ≤ 1000000 := by
      have : ss.flatMap bufs1 = (ss.take (i + 1)).flatMap bufs1 ++ (ss.drop (i + 1)).flatMap bufs1 := by rw [← List.flatMap_append, List.take_append_drop]
      rw [this, List.length_append, ← fe] at ln
      simp at ln
      omega
    have go : ∀ (o : Out), b_buffers_in_0 [x0, some (.ref h.cs.length), some (encS ss[i]), x3] (mid h (.lst (iD [])) g) = o → forL (.one 2) b_buffers_in_0 (.cell (h.cs.length + 1 + S)) l (m + 1 + 1) i [x0, some (.ref h.cs.length), x2, x3] (mid h (.lst (iD [])) g) = o.next (.one 2) b_buffers_in_0 (.cell (h.cs.length + 1 + S)) l (m + 1) (i + 1) := fun o ho => by
      rw [forL_go (d := encS ss[i]) (by rw [item_cell hS]; unfold sD; rw [List.getElem?_map, gi]; rfl) tgt_one]
      show (b_buffers_in_0 [x0, some (.ref h.cs.length), some (encS ss[i]), x3] (mid h (.lst (iD [])) g)).next _ _ _ _ _ _ = _
      rw [ho]
    have later : ∀ (P Y : PH), Grow h P → P.at (h.cs.length + 1 + S) = some (.lst (sD ss)) → Grow P Y → b_buffers_in_0 [x0, some (.ref h.cs.length), some (encS ss[i]), x3] (mid h (.lst (iD [])) g) = .nxt [x0, some (.ref Y.cs.length), some (encS ss[i]), x3] (Y.push (.lst (iD ([] ++ bufs1 ss[i])))) → ∃ (Y : PH) (F : Nat) (x2' x3' : Option D), Grow h Y ∧ Y.at F = some (.lst (iD (ss.flatMap bufs1))) ∧ h.cs.length ≤ F ∧ forL (.one 2) b_buffers_in_0 (.cell (h.cs.length + 1 + S)) l (m + 1 + 1) i [x0, some (.ref h.cs.length), x2, x3] (mid h (.lst (iD [])) g) = .nxt [x0, some (.ref F), x2', x3'] Y := fun P Y gP hP gY hb => by
      obtain ⟨W, x2', x3', gW, w⟩ := buf_loop (Z := P) (l := l) (x0 := x0) hP hs (gP.ok hl) ln m (i + 1) Y ([] ++ bufs1 ss[i]) (some (encS ss[i])) x3 (by omega) gY fe
      refine ⟨W.push (.lst (iD (ss.flatMap bufs1))), W.cs.length, x2', x3', (gP.trans gW).push _, push_at, (gP.trans gW).le, ?_⟩
      rw [go _ hb, next_nxt, gc_last (i := 1) rfl, w]
    cases q : isB ss[i] with
    | true =>
      obtain ⟨b, z⟩ := skip_gen (H := mid h (.lst (iD [])) g) (x0 := x0) (x1 := some (.ref h.cs.length)) (x3 := x3) q
      obtain ⟨Y, F, x2', x3', y1, y2, y3, w⟩ := ih (i + 1) (some (encS ss[i])) x3 (by omega) (by rw [← fe, z]; rfl)
      refine ⟨Y, F, x2', x3', y1, y2, y3, ?_⟩
      rw [go _ b, next_nxt, gc_max (by omega), w]
    | false =>
      have hsi := hs _ (List.getElem_mem hi)
      cases e9 : ss[i] with
      | put k f e =>
        rw [e9] at hsi fl
        obtain ⟨Y, gY, b⟩ := put_gen (H := mid h (.lst (iD [])) g) (P := mid h (.lst (iD ([] ++ [(k : Int)]))) g) (F := h.cs.length) (k := k) (f := f) (e := e) (fs := []) (x0 := x0) (x3 := x3) hsi (mid_grow.ok hl) (by show 0 + _ ≤ _; omega) mid_at (mid_put (by show mrL (iD _) ≤ _; rw [iD_mr]; exact Nat.zero_le _)) mid_at
        rw [← e9] at b
        exact later _ _ mid_grow (by rw [mid_up] at hS ⊢; exact hS) gY b
      | copy a b f g' c =>
        obtain ⟨Y, gY, b⟩ := copy_gen (H := mid h (.lst (iD [])) g) (F := h.cs.length) (a := a) (b := b) (f := f) (g := g') (c := c) (fs := []) (x0 := x0) (x3 := x3) (mid_grow.ok hl) (by simp) mid_at
        rw [← e9] at b
        exact later _ _ mid_grow hS gY b
      | loop1 => rw [e9] at q; cases q
      | loop2 => rw [e9] at q; cases q
      | when1 => rw [e9] at q; cases q
      | when2 => rw [e9] at q; cases q
theorem cut_keep {Y : PH} {F N : Nat} {c : Cell} (hF : Y.at F = some c) : (Y.cut (max N (max Y.lim (F + 1)))).at F = some c := by
  show (Y.cs.take _)[F]? = _
  rw [List.getElem?_take, if_pos (by omega)]
  exact hF
theorem grow_cut {h Y : PH} {k : Nat} (g : Grow h Y) (hk : h.cs.length ≤ k) : Grow h (Y.cut k) := by
  obtain ⟨g, rfl⟩ := g
  refine ⟨g.take (k - h.cs.length), ?_⟩
  show PH.mk ((h.cs ++ g).take k) _ = _
  rw [List.take_append, List.take_of_length_le hk]
theorem bufs_ap {s : St} {h : PH} (hs : okS s) (hl : h.lim ≤ h.cs.length) : ∃ (Y : PH) (F : Nat), Grow h Y ∧ Y.at F = some (.lst (iD (bufs s))) ∧ Y.cs.length = F + 1 ∧ f_buffers_in [encS s] h = .ok (.ref F) Y := by
  obtain ⟨hd, h1, h2, h3⟩ := hs
  have fm : [s].flatMap all = all s := by simp
  obtain ⟨A, gA, eA⟩ := sts_ap 11 [s] (fun x hx => by rw [List.mem_singleton.mp hx]; omega) (by rw [fm]; exact h1) (h.push (.lst (iD []))) (by rw [push_len, push_lim]; omega)
  rw [fm] at eA
  have gA1 : Grow (h.push (.lst (iD []))) (A.push (.lst (sD (all s)))) := gA.push _
  have sr : srcF (.ref A.cs.length) (A.push (.lst (sD (all s)))) = .ok (.cell A.cs.length) (A.push (.lst (sD (all s)))) := by rw [srcF_ref, push_at]; rfl
  have fu : (Src.cell A.cs.length).fuel (A.push (.lst (sD (all s)))) = (all s).length + 1 := by
    show (match (A.push (.lst (sD (all s)))).cs[A.cs.length]? with | some (.lst ds) => ds.length + 1 | _ => 0) = _
    rw [show (A.push (.lst (sD (all s)))).cs[A.cs.length]? = some (.lst (sD (all s))) from push_at]
    show (sD (all s)).length + 1 = _
    rw [sD_len]
  have la := gA.le
  rw [push_len] at la
  obtain ⟨S, hS⟩ : ∃ S, A.cs.length = h.cs.length + 1 + S := ⟨A.cs.length - h.cs.length - 1, by omega⟩
  obtain ⟨g, eg⟩ := grow_mid gA1
  have at1 : (A.push (.lst (sD (all s)))).at A.cs.length = some (.lst (sD (all s))) := push_at
  rw [eg, hS] at at1
  obtain ⟨Y, F, x2, x3, y1, y2, y3, lo⟩ := buf_start (x0 := some (encS s)) at1 hl h3 h2 rfl (all s).length 0 none none (by omega) rfl
  rw [← eg, ← hS] at lo
  have lp : ∀ e, (Res.ok (.cell A.cs.length) (A.push (.lst (sD (all s))))).lp (.one 2) b_buffers_in_0 e = forL (.one 2) b_buffers_in_0 (.cell A.cs.length) (A.push (.lst (sD (all s)))).cs.length ((all s).length + 1) 0 e (A.push (.lst (sD (all s)))) := fun e => by rw [lp_cell, fu]
  have p0 : lstF [] h = .ok (.ref h.cs.length) (h.push (.lst (iD []))) := lstF_ap (by simp)
  have tup : sD [s] = [encS s] := rfl
  rw [tup] at eA
  have k1 := cut_keep (N := h.cs.length) y2
  have k2 := grow_cut (k := max h.cs.length (max Y.lim (F + 1))) y1 (by omega)
  have hY := at_lt y2
  refine ⟨Y.cut (max h.cs.length (max Y.lim (F + 1))), F, k2, k1, ?_, ?_⟩
  · show (Y.cs.take _).length = _
    rw [List.length_take, y1.lim]
    omega
  · generalize (A.push (.lst (sD (all s)))).cs.length = L at *
    generalize A.push (.lst (sD (all s))) = A1 at *
    generalize h.push (.lst (iD [])) = P at *
    unfold f_buffers_in s_buffers_in
    simp [p0, eA, sr, lp, lo, -lstF_ap, -push_ap, -srcF_ref]
/-! ### _law_in -/
def occS (k : Int) (s : St) : Bool := (bufs s).any fun x => decide (x = k)
theorem any_fm {k : Int} : ∀ es : List Ex, ((es.filterMap bufI).any fun x => decide (x = k)) = es.any fun x => decide (bufI x = some k)
  | [] => rfl
  | e :: es => by
    have ih := any_fm (k := k) es
    cases q : bufI e with
    | none => rw [List.filterMap_cons_none q, List.any_cons, q, ih]; simp
    | some j => rw [List.filterMap_cons_some q, List.any_cons, List.any_cons, q, ih]; simp
def LinOk (r : Fn) (k : Int) (s : St) : Prop := ∀ h : PH, h.lim ≤ h.cs.length → r [encS s, .int k] h = .ok (.bl (occS k s)) h
theorem lin_comp {r : Fn} {k : Int} {h : PH} {x0 : Option D} (hl : h.lim ≤ h.cs.length) : ∀ ss : List St, (∀ x ∈ ss, LinOk r k x) → compV (.one 2) yesT (e__law_in_0 r) [x0, some (.int k), none] (sD ss) h = .ok ((ss.map (occS k)).map D.bl) h := by
  intro ks
  induction ks with
  | nil => intro _; rfl
  | cons x ks ih =>
    intro hk
    have ih := ih fun y hy => hk y (List.mem_cons_of_mem _ hy)
    have el : e__law_in_0 r [x0, some (.int k), some (encS x)] h = .ok (.bl (occS k x)) h := by
      have := hk x List.mem_cons_self h hl
      unfold e__law_in_0
      simp [this]
    show compV (.one 2) yesT (e__law_in_0 r) [x0, some (.int k), none] (encS x :: sD ks) h = _
    rw [compV_cons, tgt_one, compT_some, yesT_ap, cp1_true]
    show (e__law_in_0 r [x0, some (.int k), some (encS x)] h).cp2 _ _ _ _ _ _ = _
    rw [el, cp2_ok, cut_max, ih]
    rfl
theorem occS_sub {k : Int} {s : St} (hb : isB s = true) : occS k s = ((sub s).map (occS k)).any id := by
  have e : bufs s = (sub s).flatMap bufs := by
    unfold bufs
    rw [all_sub, List.flatMap_cons, (skip_gen (H := ⟨[], 0⟩) (x0 := none) (x1 := none) (x3 := none) hb).2, List.nil_append, List.flatMap_assoc]
  unfold occS
  rw [e]
  generalize sub s = ss
  induction ss with
  | nil => rfl
  | cons x r ih => rw [List.flatMap_cons, List.any_append, ih, List.map_cons, List.any_cons]; rfl
theorem lin_sub {r : Fn} {k : Int} {s : St} (hb : isB s = true) (l2 : (sub s).length ≤ 2) (hk : ∀ x ∈ sub s, LinOk r k x) : LinOk (runF (s__law_in r) 2 3) k s := fun h hl => by
  obtain ⟨t, t1, t2, t3⟩ := st_head s h
  have t3 := t3 hb
  rw [hb] at t2
  have co := lin_comp (x0 := some (encS s)) hl (sub s) hk
  have le : (((sub s).map (occS k)).map D.bl).length ≤ 16777216 := by rw [List.length_map, List.length_map]; omega
  have an := any_ap (h := h.push (.lst (((sub s).map (occS k)).map D.bl))) (n := h.cs.length) push_at
  have ct : (h.push (.lst (((sub s).map (occS k)).map D.bl))).cut h.cs.length = h := by rw [push_cut (Nat.le_refl _), cut_len]
  have lm : (h.push (.lst (((sub s).map (occS k)).map D.bl))).lim = h.lim := rfl
  have mx : max h.cs.length h.lim = h.cs.length := by omega
  have src : ∀ h, srcF (.tup (sD (sub s))) h = .ok (.vals (sD (sub s))) h := fun h => rfl
  rw [occS_sub hb]
  generalize ((sub s).map (occS k)).any id = B at *
  generalize hP : h.push (.lst (((sub s).map (occS k)).map D.bl)) = P at *
  generalize ((sub s).map (occS k)).map D.bl = BL at *
  generalize sD (sub s) = KS at *
  generalize encS s = ES at *
  unfold s__law_in
  simp [t1, t2, t3, src, co, le, hP, an, ct, lm, mx, -push_ap, -ixF_tupO]
theorem lin_ap : ∀ (s : St) (n : Nat) (k : Int), dpS s ≤ n → (∀ x ∈ all s, okS1 x) → LinOk (f__law_in (n + 1)) k s
  | .put j f e, n, k, _, hx => fun h hl => by
    have he : okE e := hx (.put j f e) (by simp [all])
    have ia := in_ap e 11 k he.1 h hl
    have mx : max h.cs.length h.lim = h.cs.length := by omega
    have oc : occS k (.put j f e) = (decide ((j : Int) = k) || occ k e) := by
      show ((bufs1 (.put j f e) ++ []).any fun x => decide (x = k)) = _
      rw [List.append_nil]
      show (decide ((j : Int) = k) || (((exs e).filterMap bufI).any fun x => decide (x = k))) = _
      rw [any_fm]; rfl
    have ip : ∀ h, inF (.str "put") (.tup [.str "loop", .str "when"]) h = .ok (.bl false) h := fun h => in_put
    show runF (s__law_in (f__law_in n)) 2 3 [.tup [.str "put", .int (j : Int), f.d, encE e], .int k] h = _
    rw [oc]
    unfold s__law_in
    cases q : decide ((j : Int) = k) with
    | true =>
      have q' : (j : Int) = k := of_decide_eq_true q
      simp [ip, q', mx, cut_len]
    | false =>
      have q' : ¬ (j : Int) = k := of_decide_eq_false q
      simp [ip, q', ia, mx, cut_len]
  | .copy a b f g c, n, k, _, _ => fun h hl => by
    have mx : max h.cs.length h.lim = h.cs.length := by omega
    have oc : occS k (.copy a b f g c) = (decide ((a : Int) = k) || decide ((b : Int) = k)) := by
      show (decide ((a : Int) = k) || (decide ((b : Int) = k) || false)) = _
      rw [Bool.or_false]
    have ip : ∀ h, inF (.str "copy") (.tup [.str "loop", .str "when"]) h = .ok (.bl false) h := fun h => in_copy
    show runF (s__law_in (f__law_in n)) 2 3 [.tup [.str "copy", .int (a : Int), f.d, .int (b : Int), g.d, c.d], .int k] h = _
    rw [oc]
    unfold s__law_in
    simp [ip, mx, cut_len]
  | .loop1 v s t c a, n, k, hd, hx => by
    have hd' : dpS a + 1 ≤ n := hd
    obtain ⟨n, rfl⟩ : ∃ m, n = m + 1 := ⟨n - 1, by omega⟩
    have ia := lin_ap a n k (by omega) fun x h => hx x (by simp [all, h])
    exact lin_sub (s := .loop1 v s t c a) rfl (by simp [sub]) fun x h => by rw [List.mem_singleton.mp h]; exact ia
  | .loop2 v s t c a b, n, k, hd, hx => by
    have hd' : max (dpS a) (dpS b) + 1 ≤ n := hd
    obtain ⟨n, rfl⟩ : ∃ m, n = m + 1 := ⟨n - 1, by omega⟩
    have ia := lin_ap a n k (by omega) fun x h => hx x (by simp [all, h])
    have ib := lin_ap b n k (by omega) fun x h => hx x (by simp [all, h])
    exact lin_sub (s := .loop2 v s t c a b) rfl (by simp [sub]) fun x h => by
      rcases List.mem_cons.mp h with e | e
      · rw [e]; exact ia
      · rw [List.mem_singleton.mp e]; exact ib
  | .when1 t a, n, k, hd, hx => by
    have hd' : dpS a + 1 ≤ n := hd
    obtain ⟨n, rfl⟩ : ∃ m, n = m + 1 := ⟨n - 1, by omega⟩
    have ia := lin_ap a n k (by omega) fun x h => hx x (by simp [all, h])
    exact lin_sub (s := .when1 t a) rfl (by simp [sub]) fun x h => by rw [List.mem_singleton.mp h]; exact ia
  | .when2 t a b, n, k, hd, hx => by
    have hd' : max (dpS a) (dpS b) + 1 ≤ n := hd
    obtain ⟨n, rfl⟩ : ∃ m, n = m + 1 := ⟨n - 1, by omega⟩
    have ia := lin_ap a n k (by omega) fun x h => hx x (by simp [all, h])
    have ib := lin_ap b n k (by omega) fun x h => hx x (by simp [all, h])
    exact lin_sub (s := .when2 t a b) rfl (by simp [sub]) fun x h => by
      rcases List.mem_cons.mp h with e | e
      · rw [e]; exact ia
      · rw [List.mem_singleton.mp e]; exact ib
/-! ### lives, of one buffer -/
def rangeI (n : Nat) : List Int := (List.range n).map fun (k : Nat) => (k : Int)
theorem rangeD_I {n : Nat} : rangeD 0 1 n = iD (rangeI n) := by
  unfold rangeD rangeI iD
  rw [List.map_map]
  apply List.map_congr_left
  intro a _
  show D.int (0 + (a : Int) * 1) = D.int (a : Int)
  congr 1
  omega
def hit (body : List St) (k t : Int) : Bool := match body[t.toNat]? with
  | some s => occS k s
  | none => false
def usOf (body : List St) (k : Int) : List Int := (rangeI body.length).filter (hit body k)
def FI (us : List Int) (n : Int) : Int := if us = [] then 0 else minI (us ++ [n])
def LA (us : List Int) : Int := maxI (0 :: us)
theorem us_sorted {body : List St} {k : Int} : (usOf body k).Pairwise (· < ·) := by
  unfold usOf rangeI
  refine List.Pairwise.filter _ ?_
  rw [List.pairwise_map]
  exact List.Pairwise.imp (fun h => by omega) List.pairwise_lt_range
theorem us_mem {body : List St} {k u : Int} (h : u ∈ usOf body k) : 0 ≤ u ∧ u < body.length := by
  have := (List.mem_filter.mp h).1
  obtain ⟨n, hn, rfl⟩ := List.mem_map.mp this
  have := List.mem_range.mp hn
  omega
theorem FI_head {u n : Int} {r : List Int} (h : (u :: r).Pairwise (· < ·)) (hn : ∀ x ∈ u :: r, x < n) : FI (u :: r) n = u := by
  unfold FI
  rw [if_neg (by simp)]
  obtain ⟨m1, m2⟩ := minI_spec (ns := (u :: r) ++ [n]) (by simp)
  have a := m2 u (by simp)
  have b : u ≤ minI ((u :: r) ++ [n]) := by
    rcases List.mem_append.mp m1 with e | e
    · rcases List.mem_cons.mp e with e | e
      · omega
      · have := (List.pairwise_cons.mp h).1 _ e; omega
    · rw [List.mem_singleton.mp e]
      have := hn u (by simp)
      omega
  omega
theorem LA_last {u : Int} {r : List Int} (h : (r ++ [u]).Pairwise (· < ·)) (h0 : ∀ x ∈ r ++ [u], 0 ≤ x) : LA (r ++ [u]) = u := by
  unfold LA
  obtain ⟨m1, m2⟩ := maxI_spec (ns := 0 :: (r ++ [u])) (by simp)
  have a := m2 u (by simp)
  have b : maxI (0 :: (r ++ [u])) ≤ u := by
    rcases List.mem_cons.mp m1 with e | e
    · rw [e]; exact h0 u (by simp)
    · rcases List.mem_append.mp e with e | e
      · have := (List.pairwise_append.mp h).2.2 _ e u (by simp); omega
      · rw [List.mem_singleton.mp e]; exact Int.le_refl _
  omega
theorem ints_in {xs : List Int} {k : Int} : (iD xs).all flatD = true ∧ ((iD xs).any fun d => eqFl d (.int k)) = xs.any fun x => decide (x = k) := by
  induction xs with
  | nil => exact ⟨rfl, rfl⟩
  | cons x r ih =>
    refine ⟨by show (true && (iD r).all flatD) = true; rw [ih.1]; rfl, ?_⟩
    show ((x == k) || (iD r).any fun d => eqFl d (.int k)) = _
    rw [ih.2, List.any_cons]
    congr 1
theorem in_ref {h : PH} {n : Nat} {xs : List Int} {k : Int} (hn : h.at n = some (.lst (iD xs))) : inF (.int k) (.ref n) h = .ok (.bl (xs.any fun x => decide (x = k))) h := by
  have e : inB (.int k) (.ref n) h = some (xs.any fun x => decide (x = k)) := by
    rw [← (ints_in (xs := xs) (k := k)).2]
    have is : itemsS h (.ref n) = some (iD xs) := by rw [itemsS_ref, hn]; rfl
    simp only [inB, is]
    exact if_pos (c := flatD (.int k) = true ∧ (iD xs).all flatD = true) ⟨rfl, (ints_in (xs := xs) (k := k)).1⟩
  unfold inF
  rw [e]
theorem in_tupI {h : PH} {xs : List Int} {k : Int} : inF (.int k) (.tup (iD xs)) h = .ok (.bl (xs.any fun x => decide (x = k))) h := by
  have e : inB (.int k) (.tup (iD xs)) h = some (xs.any fun x => decide (x = k)) := by
    rw [← (ints_in (xs := xs) (k := k)).2]
    exact if_pos (c := flatD (.int k) = true ∧ (iD xs).all flatD = true) ⟨rfl, (ints_in (xs := xs) (k := k)).1⟩
  unfold inF
  rw [e]
theorem intsOf_iD : ∀ ns : List Int, intsOf (iD ns) = some ns := intsOf_map
theorem min_ap {h : PH} {n : Nat} {x : Int} {xs : List Int} (hn : h.at n = some (.lst (iD (x :: xs)))) : min1F (.ref n) h = .ok (.int (minI (x :: xs))) h := by
  show (match itemsL h (.ref n) with | some ds => (match intsOf ds with | some (n :: ns) => Res.ok (D.int (minI (n :: ns))) h | _ => .stuck) | none => .stuck) = _
  rw [itemsL_ref, hn]
  show (match intsOf (iD (x :: xs)) with | some (n :: ns) => Res.ok (D.int (minI (n :: ns))) h | _ => .stuck) = _
  rw [intsOf_iD]
theorem max_ap {h : PH} {n : Nat} {x : Int} {xs : List Int} (hn : h.at n = some (.lst (iD (x :: xs)))) : max1F (.ref n) h = .ok (.int (maxI (x :: xs))) h := by
  show (match itemsL h (.ref n) with | some ds => (match intsOf ds with | some (n :: ns) => Res.ok (D.int (maxI (n :: ns))) h | _ => .stuck) | none => .stuck) = _
  rw [itemsL_ref, hn]
  show (match intsOf (iD (x :: xs)) with | some (n :: ns) => Res.ok (D.int (maxI (n :: ns))) h | _ => .stuck) = _
  rw [intsOf_iD]
abbrev Bf := List (Str × Int)
def bD (bs : Bf) : List D := bs.map fun b => .tup [.str b.1, .int b.2]
def rw1 : SM := asgS (compE (rngE rangeF1 (consA (nA (Dy.f1 lenF) (consA (vE 3) (nilA))) (nilA))) [11] (.one 11) t_lives_1 e_lives_1) (.one 7)
def rw2 : SM := asgS (ifE (tbT (b2E gtF (nA (Dy.f1 lenF) (consA (vE 7) (nilA))) (cE (.int 0)))) (nA (Dy.f1 min1F) (consA (b2E addF (vE 7) (nA lstF (consA (nA (Dy.f1 lenF) (consA (vE 3) (nilA))) (nilA)))) (nilA))) (cE (.int 0))) (.one 8)
def rw3 : SM := asgS (nA (Dy.f1 max1F) (consA (b2E addF (nA lstF (consA (cE (.int 0)) (nilA))) (vE 7)) (nilA))) (.one 9)
def rw4 : SM := ifS (tbT (b2E inF (vE 6) (vE 1))) (seqS (asgS (nA (Dy.f1 lenF) (consA (vE 3) (nilA))) (.one 9)) (nextS)) (nextS)
def rw5 : SM := exprS (mtE "list" appF (vE 5) (consA (nA tupF (consA (vE 8) (consA (vE 9) (nilA)))) (nilA)))
theorem b_lives_eq : b_lives_0 = seqS (ifS (tbT (b2E eqF (b2E ixF (b2E ixF (vE 2) (vE 6)) (cE (.int 0))) (cE (.str "main")))) (seqS rw1 (seqS rw2 (seqS rw3 (seqS rw4 (seqS rw5 nextS))))) nextS) nextS := rfl
def envV (x0 : Option D) (os : List Int) (bs : Bf) (body : List St) (RR F : Nat) (x6 x7 x8 x9 x10 x11 : Option D) : Dy.Env := [x0, some (.tup (iD os)), some (.tup (bD bs)), some (.tup (sD body)), some (.ref RR), some (.ref F), x6, x7, x8, x9, x10, x11]
def hitD (body : List St) (k : Int) : D → Bool
  | .int t => hit body k t
  | _ => false
theorem hit_filter {body : List St} {k : Int} : ((iD (rangeI body.length)).filter (hitD body k)).map id = iD (usOf body k) := by
  unfold usOf
  generalize rangeI body.length = xs
  induction xs with
  | nil => rfl
  | cons x r ih =>
    show ((D.int x :: iD r).filter _).map id = _
    cases q : hit body k x with
    | true =>
      have q2 : hitD body k (.int x) = true := q
      rw [List.filter_cons_of_pos q, List.filter_cons_of_pos q2, List.map_cons, ih]; rfl
    | false =>
      have q2 : ¬ hitD body k (.int x) = true := by show ¬ hit body k x = true; rw [q]; simp
      rw [List.filter_cons_of_neg q2, List.filter_cons_of_neg (by simp [q]), ih]
/-- the rows: which buffers each statement has -/
def Rows (Z : PH) (RR : Nat) (body : List St) : Prop := ∃ rs : List Nat, Z.at RR = some (.lst (rs.map D.ref)) ∧ rs.length = body.length ∧ ∀ (i : Nat) (s : St), body[i]? = some s → ∃ r, rs[i]? = some r ∧ Z.at r = some (.lst (iD (bufs s)))
theorem mid_lt {h : PH} {c : Cell} {g : List Cell} {n : Nat} (q : n < h.cs.length) : (mid h c g).at n = h.at n := mid_grow.at_ q
theorem mid_push {h : PH} {c d : Cell} {g : List Cell} : (mid h c g).push d = mid h c (g ++ [d]) := by
  show PH.mk ((h.cs ++ [c] ++ g) ++ [d]) _ = PH.mk (h.cs ++ [c] ++ (g ++ [d])) _
  rw [List.append_assoc (h.cs ++ [c])]
  rfl
section
variable {Z : PH} {c : Cell} {g : List Cell} {x0 x6 x7 x8 x9 x10 x11 : Option D} {os : List Int} {bs : Bf} {body : List St} {RR : Nat} {k : Int}
theorem rw1_ap (hR : Rows Z RR body) (nb : body.length ≤ 1000000) : rw1 (envV x0 os bs body RR Z.cs.length (some (.int k)) x7 x8 x9 x10 x11) (mid Z c g) = .nxt (envV x0 os bs body RR Z.cs.length (some (.int k)) (some (.ref (Z.cs.length + 1 + g.length))) x8 x9 x10 x11) (mid Z c (g ++ [.lst (iD (usOf body k))])) := by
  obtain ⟨rs, r1, r2, r3⟩ := hR
  have le : ∀ h, lenF (.tup (sD body)) h = .ok (.int (body.length : Int)) h := fun h => by rw [lenF_tup, sD_len]
  have ra : ∀ h, rangeF1 [.int (body.length : Int)] h = .ok (.vals (iD (rangeI body.length))) h := fun h => by rw [range1 (in62_lit (by omega) (by omega)), Int.toNat_natCast, rangeD_I]
  have co := compV_map (t := .one 11) (tst := t_lives_1) (elt := e_lives_1) (e0 := envV x0 os bs body RR Z.cs.length (some (.int k)) x7 x8 x9 x10 none) (h := mid Z c g) (p := hitD body k) (g := id) (ds := iD (rangeI body.length)) (fun d hd => by
    obtain ⟨t, ht, rfl⟩ := List.mem_map.mp hd
    obtain ⟨n, hn, rfl⟩ := List.mem_map.mp ht
    have hn := List.mem_range.mp hn
    obtain ⟨s, hs⟩ : ∃ s, body[n]? = some s := ⟨_, List.getElem?_eq_getElem hn⟩
    obtain ⟨r, q1, q2⟩ := r3 n s hs
    have a1 : (mid Z c g).at RR = some (.lst (rs.map D.ref)) := by rw [mid_lt (at_lt r1)]; exact r1
    have a2 : (mid Z c g).at r = some (.lst (iD (bufs s))) := by rw [mid_lt (at_lt q2)]; exact q2
    have i1 : atI (rs.map D.ref) (n : Int) = some (.ref r) := by rw [Dy.atI_nat, List.getElem?_map, q1]; rfl
    have i2 := in_ref (k := k) a2
    have hh : hit body k (n : Int) = (bufs s).any fun x => decide (x = k) := by
      unfold hit
      rw [Int.toNat_natCast, hs]; rfl
    refine ⟨_, tgt_one, ?_, fun _ => ?_⟩
    · show _ = Res.ok (hit body k (n : Int)) _
      rw [hh]
      unfold t_lives_1 envV
      generalize ((bufs s).any fun x => decide (x = k)) = B at *
      simp [a1, i1, i2]
    · unfold e_lives_1 envV
      simp)
  rw [hit_filter] at co
  have lu : (iD (usOf body k)).length ≤ 16777216 := by
    rw [iD_len]
    have := List.length_filter_le (hit body k) (rangeI body.length)
    unfold usOf
    have e : (rangeI body.length).length = body.length := by unfold rangeI; simp
    omega
  have pu := mid_push (h := Z) (c := c) (d := .lst (iD (usOf body k))) (g := g)
  have ln := mid_len (h := Z) (c := c) (g := g)
  unfold envV at co ⊢
  generalize iD (usOf body k) = U at *
  generalize mid Z c (g ++ [.lst U]) = M2 at *
  generalize mid Z c g = M1 at *
  generalize iD (rangeI body.length) = R at *
  generalize (body.length : Int) = N at *
  unfold rw1
  simp [le, ra, co, lu, pu, ln, -lenF_tup, -range1, -push_ap]
theorem rw2_ap {M : PH} {N7 : Nat} {us : List Int} {RF : Nat} {n : Nat} (hU : M.at N7 = some (.lst (iD us))) (hn : n = body.length) (lu : us.length ≤ 1000000) : ∃ M', Grow M M' ∧ rw2 (envV x0 os bs body RR RF x6 (some (.ref N7)) x8 x9 x10 x11) M = .nxt (envV x0 os bs body RR RF x6 (some (.ref N7)) (some (.int (FI us n))) x9 x10 x11) M' := by
  have le : ∀ h, lenF (.tup (sD body)) h = .ok (.int (n : Int)) h := fun h => by rw [lenF_tup, sD_len, hn]
  unfold envV
  cases us with
  | nil =>
    refine ⟨M, .refl, ?_⟩
    have l0 : lenF (.ref N7) M = .ok (.int 0) M := by rw [lenF_refO, hU]; rfl
    unfold rw2 FI
    simp [l0]
  | cons u us =>
    have l0 : lenF (.ref N7) M = .ok (.int ((us.length : Int) + 1)) M := by rw [lenF_refO, hU]; show Res.ok (D.int (((iD (u :: us)).length : Nat) : Int)) _ = _; rw [iD_len]; simp
    have gt : (0 : Int) < (us.length : Int) + 1 := by omega
    have p0 : lstF [.int (n : Int)] M = .ok (.ref M.cs.length) (M.push (.lst (iD [(n : Int)]))) := by rw [lstF_ap (by simp)]; rfl
    have ad := add_rec (Z := M) (X := M) (M := N7) (fs := iD (u :: us)) (L := iD [(n : Int)]) hU .refl (by rw [iD_len, iD_len]; have : [(n : Int)].length = 1 := rfl; omega)
    rw [← iD_app] at ad
    have mn := min_ap (h := (M.push (.lst (iD [(n : Int)]))).push (.lst (iD (u :: us ++ [(n : Int)])))) (n := M.cs.length + 1) (x := u) (xs := us ++ [(n : Int)]) (by
      have := push_at (h := M.push (.lst (iD [(n : Int)]))) (c := .lst (iD (u :: us ++ [(n : Int)])))
      rw [push_len] at this
      exact this)
    rw [show FI (u :: us) n = minI (u :: (us ++ [(n : Int)])) by unfold FI; rw [if_neg (by simp)]; rfl]
    refine ⟨(M.push (.lst (iD [(n : Int)]))).push (.lst (iD (u :: us ++ [(n : Int)]))), (Grow.refl.push _).push _, ?_⟩
    generalize (M.push (.lst (iD [(n : Int)]))).push (.lst (iD (u :: us ++ [(n : Int)]))) = M2 at *
    generalize M.push (.lst (iD [(n : Int)])) = M1 at *
    generalize minI (u :: (us ++ [(n : Int)])) = V at *
    generalize (n : Int) = NN at *
    unfold rw2
    simp [l0, gt, le, p0, ad, mn, -lenF_tup, -lstF_ap, -push_ap]
theorem rw3_ap {M : PH} {N7 : Nat} {us : List Int} {RF : Nat} (hU : M.at N7 = some (.lst (iD us))) (lu : us.length ≤ 1000000) : ∃ M', Grow M M' ∧ rw3 (envV x0 os bs body RR RF x6 (some (.ref N7)) x8 x9 x10 x11) M = .nxt (envV x0 os bs body RR RF x6 (some (.ref N7)) x8 (some (.int (LA us))) x10 x11) M' := by
  have p0 : lstF [.int 0] M = .ok (.ref M.cs.length) (M.push (.lst (iD [0]))) := by rw [lstF_ap (by simp)]; rfl
  have ad := ladd_ap (h := M.push (.lst (iD [0]))) (m := M.cs.length) (n := N7) (xs := iD [0]) (ys := iD us) push_at (by rw [push_lt (at_lt hU)]; exact hU) (by rw [iD_len, iD_len]; have : [(0 : Int)].length = 1 := rfl; omega)
  rw [← iD_app, push_len] at ad
  have mx := max_ap (h := (M.push (.lst (iD [0]))).push (.lst (iD ([0] ++ us)))) (n := M.cs.length + 1) (x := 0) (xs := us) (by
    have := push_at (h := M.push (.lst (iD [0]))) (c := .lst (iD ([0] ++ us)))
    rw [push_len] at this
    exact this)
  refine ⟨(M.push (.lst (iD [0]))).push (.lst (iD ([0] ++ us))), (Grow.refl.push _).push _, ?_⟩
  unfold envV LA
  generalize (M.push (.lst (iD [0]))).push (.lst (iD ([0] ++ us))) = M2 at *
  generalize M.push (.lst (iD [0])) = M1 at *
  generalize maxI (0 :: us) = V at *
  unfold rw3
  simp [p0, ad, mx, -lstF_ap, -push_ap]
def LAo (os : List Int) (n : Nat) (us : List Int) (k : Int) : Int := if (os.any fun x => decide (x = k)) = true then (n : Int) else LA us
theorem rw4_ap {M : PH} {us : List Int} {RF : Nat} : rw4 (envV x0 os bs body RR RF (some (.int k)) x7 x8 (some (.int (LA us))) x10 x11) M = .nxt (envV x0 os bs body RR RF (some (.int k)) x7 x8 (some (.int (LAo os body.length us k))) x10 x11) M := by
  have le : ∀ h, lenF (.tup (sD body)) h = .ok (.int (body.length : Int)) h := fun h => by rw [lenF_tup, sD_len]
  have ii := fun h : PH => in_tupI (h := h) (xs := os) (k := k)
  unfold envV LAo
  generalize (os.any fun x => decide (x = k)) = B at *
  cases B with
  | true => unfold rw4; simp [le, ii, -lenF_tup]
  | false => unfold rw4; simp [le, ii, -lenF_tup]
theorem rw5_ap {M : PH} {a b : Int} {RF : Nat} {ds : List D} {M' : PH} (hF : M.at RF = some (.lst ds)) (l : ds.length ≤ 1000) (hM : M.put RF (.lst (ds ++ [.tup [.int a, .int b]])) = M') : rw5 (envV x0 os bs body RR RF x6 x7 (some (.int a)) (some (.int b)) x10 x11) M = .nxt (envV x0 os bs body RR RF x6 x7 (some (.int a)) (some (.int b)) x10 x11) M' := by
  have ap := app_ap (d := .tup [.int a, .int b]) hF (by omega)
  rw [hM] at ap
  have il := is_lst hF
  unfold envV rw5
  simp [ap, il, -appF_refO]
end
theorem mid_grow2 {Z X : PH} {c : Cell} {g : List Cell} (a : Grow (mid Z c g) X) : ∃ g', X = mid Z c (g ++ g') := by
  obtain ⟨g', rfl⟩ := a
  refine ⟨g', ?_⟩
  show PH.mk ((Z.cs ++ [c] ++ g) ++ g') _ = PH.mk (Z.cs ++ [c] ++ (g ++ g')) _
  rw [List.append_assoc (Z.cs ++ [c])]
  rfl
def life (body : List St) (os : List Int) (k : Int) : D := .tup [.int (FI (usOf body k) body.length), .int (LAo os body.length (usOf body k) k)]
theorem life_mr {body : List St} {os : List Int} {k : Int} : (life body os k).mr = 0 := rfl
def isM (bs : Bf) (k : Int) : Bool := match bs[k.toNat]? with
  | some b => decide (b.1 = ("main" : Str))
  | none => false
theorem us_len {body : List St} {k : Int} : (usOf body k).length ≤ body.length := by
  have := List.length_filter_le (hit body k) (rangeI body.length)
  unfold usOf
  have e : (rangeI body.length).length = body.length := by unfold rangeI; simp
  omega
theorem bs_at {bs : Bf} {i : Nat} {b : Str × Int} (hb : bs[i]? = some b) : L2.atI (bD bs) (i : Int) = some (.tup [.str b.1, .int b.2]) := by
  rw [Dy.atI_nat]
  unfold bD
  rw [List.getElem?_map, hb]; rfl
section
variable {Z : PH} {g : List Cell} {x0 x7 x8 x9 x10 x11 : Option D} {os : List Int} {bs : Bf} {body : List St} {RR : Nat}
theorem turn_ap {res : List D} {i : Nat} {b : Str × Int} (hR : Rows Z RR body) (nb : body.length ≤ 1000000) (lr : res.length ≤ 1000) (mr : mrL res = 0) (hb : bs[i]? = some b) :
    ∃ g' x7' x8' x9', b_lives_0 (envV x0 os bs body RR Z.cs.length (some (.int (i : Int))) x7 x8 x9 x10 x11) (mid Z (.lst res) g) = .nxt (envV x0 os bs body RR Z.cs.length (some (.int (i : Int))) x7' x8' x9' x10 x11) (mid Z (.lst (if isM bs i = true then res ++ [life body os i] else res)) g') := by
  have hm : isM bs (i : Int) = decide (b.1 = ("main" : Str)) := by unfold isM; rw [Int.toNat_natCast, hb]
  have ba := bs_at hb
  rw [hm]
  cases q : decide (b.1 = ("main" : Str)) with
  | false =>
    refine ⟨g, x7, x8, x9, ?_⟩
    have q' : ¬ b.1 = ("main" : Str) := of_decide_eq_false q
    rw [if_neg (by simp)]
    rw [b_lives_eq]
    unfold envV
    generalize bD bs = B at *
    simp [ba, q']
  | true =>
    have q' : b.1 = ("main" : Str) := of_decide_eq_true q
    rw [if_pos rfl]
    have ul := us_len (body := body) (k := (i : Int))
    have r1 := rw1_ap (c := .lst res) (g := g) (x0 := x0) (x7 := x7) (x8 := x8) (x9 := x9) (x10 := x10) (x11 := x11) (os := os) (bs := bs) (k := (i : Int)) hR nb
    obtain ⟨M2, gg2, r2⟩ := rw2_ap (x0 := x0) (x6 := some (.int (i : Int))) (x8 := x8) (x9 := x9) (x10 := x10) (x11 := x11) (os := os) (bs := bs) (body := body) (RR := RR) (RF := Z.cs.length) (M := mid Z (.lst res) (g ++ [.lst (iD (usOf body i))])) (N7 := Z.cs.length + 1 + g.length) (us := usOf body i) (n := body.length) (by rw [mid_up, List.getElem?_append_right (Nat.le_refl _), Nat.sub_self]; rfl) rfl (by omega)
    obtain ⟨g2, rfl⟩ := mid_grow2 gg2
    obtain ⟨M3, gg3, r3⟩ := rw3_ap (x0 := x0) (x6 := some (.int (i : Int))) (x8 := some (.int (FI (usOf body i) body.length))) (x9 := x9) (x10 := x10) (x11 := x11) (os := os) (bs := bs) (body := body) (RR := RR) (RF := Z.cs.length) (M := mid Z (.lst res) (g ++ [.lst (iD (usOf body i))] ++ g2)) (N7 := Z.cs.length + 1 + g.length) (us := usOf body i) (by rw [mid_up, List.append_assoc, List.getElem?_append_right (Nat.le_refl _), Nat.sub_self]; rfl) (by omega)
    obtain ⟨g3, rfl⟩ := mid_grow2 gg3
    have r4 := rw4_ap (x0 := x0) (x7 := some (.ref (Z.cs.length + 1 + g.length))) (x8 := some (.int (FI (usOf body i) body.length))) (x10 := x10) (x11 := x11) (os := os) (bs := bs) (body := body) (RR := RR) (RF := Z.cs.length) (us := usOf body i) (k := (i : Int)) (M := mid Z (.lst res) (g ++ [.lst (iD (usOf body i))] ++ g2 ++ g3))
    have r5 := rw5_ap (x0 := x0) (x6 := some (.int (i : Int))) (x7 := some (.ref (Z.cs.length + 1 + g.length))) (x10 := x10) (x11 := x11) (os := os) (bs := bs) (body := body) (RR := RR) (RF := Z.cs.length) (a := FI (usOf body i) body.length) (b := LAo os body.length (usOf body i) i) (ds := res) mid_at lr (mid_put (c := .lst res) (g := g ++ [.lst (iD (usOf body i))] ++ g2 ++ g3) (c' := .lst (res ++ [life body os i])) (by show mrL (res ++ [life body os i]) ≤ _; rw [mrL_append, mr]; exact Nat.zero_le _))
    refine ⟨g ++ [.lst (iD (usOf body i))] ++ g2 ++ g3, some (.ref (Z.cs.length + 1 + g.length)), some (.int (FI (usOf body i) body.length)), some (.int (LAo os body.length (usOf body i) i)), ?_⟩
    rw [b_lives_eq]
    generalize mid Z (.lst (res ++ [life body os i])) (g ++ [.lst (iD (usOf body i))] ++ g2 ++ g3) = M5 at *
    generalize mid Z (.lst res) (g ++ [.lst (iD (usOf body i))] ++ g2 ++ g3) = M4 at *
    generalize mid Z (.lst res) (g ++ [.lst (iD (usOf body i))] ++ g2) = M3 at *
    generalize mid Z (.lst res) (g ++ [.lst (iD (usOf body i))]) = M2 at *
    generalize mid Z (.lst res) g = M1 at *
    generalize FI (usOf body i) body.length = A at *
    generalize LAo os body.length (usOf body i) i = B9 at *
    generalize LA (usOf body i) = B8 at *
    generalize Z.cs.length + 1 + g.length = N7 at *
    unfold envV at *
    generalize bD bs = B at *
    simp [ba, q', r1, r2, r3, r4, r5]
theorem mid_cut {c : Cell} {k : Nat} (q : Z.cs.length + 1 ≤ k) : ∃ g', (mid Z c g).cut k = mid Z c g' := by
  refine ⟨g.take (k - (Z.cs.length + 1)), ?_⟩
  show PH.mk ((Z.cs ++ [c] ++ g).take k) _ = PH.mk (Z.cs ++ [c] ++ _) _
  rw [List.take_append, List.length_append, List.take_of_length_le (by rw [List.length_append]; exact q)]
  rfl
theorem mid_gc {c : Cell} {l : Nat} {e : Dy.Env} (q : Z.cs.length + 1 ≤ l) : ∃ g', (mid Z c g).gc l e = mid Z c g' := by
  unfold PH.gc
  exact mid_cut (by omega)
def livesOf (bs : Bf) (body : List St) (os ks : List Int) : List D := (ks.filter (isM bs)).map (life body os)
theorem livesOf_mr {ks : List Int} : mrL (livesOf bs body os ks) = 0 := by
  unfold livesOf
  generalize ks.filter (isM bs) = ks
  induction ks with
  | nil => rfl
  | cons k r ih => show max 0 (mrL (r.map (life body os))) = 0; rw [ih]; rfl
theorem lives_loop (hR : Rows Z RR body) (nb : body.length ≤ 1000000) {l : Nat} (hl : Z.cs.length + 1 ≤ l) : ∀ (ks : List Nat) (x6 x7 x8 x9 : Option D) (res : List D) (g : List Cell), (∀ k ∈ ks, k < bs.length) → res.length + ks.length ≤ 1000 → mrL res = 0 →
    ∃ g' x6' x7' x8' x9', forV (.one 6) b_lives_0 l (iD (ks.map fun (k : Nat) => (k : Int))) (envV x0 os bs body RR Z.cs.length x6 x7 x8 x9 x10 x11) (mid Z (.lst res) g) = .nxt (envV x0 os bs body RR Z.cs.length x6' x7' x8' x9' x10 x11) (mid Z (.lst (res ++ livesOf bs body os (ks.map fun (k : Nat) => (k : Int)))) g') := by
  intro ks
  induction ks with
  | nil => intro x6 x7 x8 x9 res g _ _ _; exact ⟨g, x6, x7, x8, x9, by rw [show livesOf bs body os (List.map (fun (k : Nat) => (k : Int)) []) = [] from rfl, List.append_nil]; rfl⟩
  | cons k ks ih =>
    intro x6 x7 x8 x9 res g hk ln mr
    have hk1 := hk k List.mem_cons_self
    obtain ⟨b, hb⟩ : ∃ b, bs[k]? = some b := ⟨_, List.getElem?_eq_getElem hk1⟩
    rw [List.length_cons] at ln
    obtain ⟨g1, y7, y8, y9, t⟩ := turn_ap (x0 := x0) (x7 := x7) (x8 := x8) (x9 := x9) (x10 := x10) (x11 := x11) (os := os) (g := g) (res := res) hR nb (by omega) mr hb
    obtain ⟨g2, e2⟩ := mid_gc (Z := Z) (g := g1) (c := .lst (if isM bs (k : Int) = true then res ++ [life body os k] else res)) (e := envV x0 os bs body RR Z.cs.length (some (.int (k : Int))) y7 y8 y9 x10 x11) hl
    obtain ⟨g3, z6, z7, z8, z9, w⟩ := ih (some (.int (k : Int))) y7 y8 y9 (if isM bs (k : Int) = true then res ++ [life body os k] else res) g2 (fun k' h' => hk k' (List.mem_cons_of_mem _ h')) (by
      split
      · rw [List.length_append]; show res.length + 1 + _ ≤ _; omega
      · omega) (by
      split
      · rw [mrL_append, mr]; rfl
      · exact mr)
    refine ⟨g3, z6, z7, z8, z9, ?_⟩
    show forV (.one 6) b_lives_0 l (D.int (k : Int) :: iD (ks.map fun (k : Nat) => (k : Int))) _ _ = _
    rw [forV_cons, tgt_one, tgtO_some]
    show (b_lives_0 (envV x0 os bs body RR Z.cs.length (some (.int (k : Int))) x7 x8 x9 x10 x11) (mid Z (.lst res) g)).nextV _ _ _ _ = _
    rw [t, nextV_nxt, e2, w]
    have e9 : (if isM bs (k : Int) = true then res ++ [life body os k] else res) ++ livesOf bs body os (ks.map fun (k : Nat) => (k : Int)) = res ++ livesOf bs body os ((k :: ks).map fun (k : Nat) => (k : Int)) := by
      unfold livesOf
      rw [List.map_cons, List.filter_cons]
      split
      · rw [List.map_cons, List.append_assoc]; rfl
      · rfl
    rw [e9]
theorem rows_comp : ∀ (ss : List St) (h : PH) (e : Dy.Env), (∀ s : D, (e.set 10 (some s))[10]? = some (some s)) → h.lim ≤ h.cs.length → (∀ s ∈ ss, okS s) →
    ∃ (Y : PH) (rs : List Nat), Grow h Y ∧ rs.length = ss.length ∧ (∀ (i : Nat) (s : St), ss[i]? = some s → ∃ r, rs[i]? = some r ∧ Y.at r = some (.lst (iD (bufs s)))) ∧ compV (.one 10) yesT e_lives_2 e (sD ss) h = .ok (rs.map D.ref) Y := by
  intro ss
  induction ss with
  | nil => intro h e _ _ _; exact ⟨h, [], .refl, rfl, fun i s q => (by simp at q), rfl⟩
  | cons s ss ih =>
    intro h e he hl hs
    obtain ⟨Y, F, gY, yF, yl, ye⟩ := bufs_ap (hs s List.mem_cons_self) hl
    obtain ⟨W, rs, gW, w1, w2, w3⟩ := ih Y e he (gY.ok hl) (fun x hx => hs x (List.mem_cons_of_mem _ hx))
    refine ⟨W, F :: rs, gY.trans gW, by simp [w1], ?_, ?_⟩
    · intro i t q
      cases i with
      | zero =>
        have q' : s = t := by simpa using q
        subst q'
        exact ⟨F, rfl, by rw [gW.at_ (at_lt yF)]; exact yF⟩
      | succ i => exact w2 i t (by simpa using q)
    · show compV (.one 10) yesT e_lives_2 e (encS s :: sD ss) h = _
      rw [compV_cons, tgt_one, compT_some, yesT_ap, cp1_true]
      have el : e_lives_2 (e.set 10 (some (encS s))) h = .ok (.ref F) Y := by
        have := he (encS s)
        generalize e.set 10 (some (encS s)) = e1 at *
        unfold e_lives_2
        simp [vE, this, ye]
      show (e_lives_2 (e.set 10 (some (encS s))) h).cp2 _ _ _ _ _ _ = _
      rw [el, cp2_ok, cut_ge (by rw [yl, mr_ref]; omega), w3]
      rfl
theorem bD_len : (bD bs).length = bs.length := List.length_map _
theorem bD_mr : mrL (bD bs) = 0 := by
  induction bs with
  | nil => rfl
  | cons b r ih => show max 0 (mrL (bD r)) = 0; rw [ih]; rfl
theorem lives_ap {h : PH} (hl : h.lim ≤ h.cs.length) (hs : ∀ s ∈ body, okS s) (nb : body.length ≤ 1000000) (nbs : bs.length ≤ 500) : f_lives [.tup [.tup (bD bs), .tup (sD body)], .tup (iD os)] h = .ok (.tup (livesOf bs body os (rangeI bs.length))) h := by
  obtain ⟨Y, rs, gY, y1, y2, y3⟩ := rows_comp body h [some (.tup [.tup (bD bs), .tup (sD body)]), some (.tup (iD os)), some (.tup (bD bs)), some (.tup (sD body)), none, none, none, none, none, none, none, none] (fun s => rfl) hl hs
  have lr : (rs.map D.ref).length ≤ 16777216 := by rw [List.length_map, y1]; omega
  have hR : Rows (Y.push (.lst (rs.map D.ref))) Y.cs.length body := ⟨rs, push_at, y1, fun i s q => by
    obtain ⟨r, r1, r2⟩ := y2 i s q
    exact ⟨r, r1, by rw [push_lt (at_lt r2)]; exact r2⟩⟩
  have le : ∀ h, lenF (.tup (bD bs)) h = .ok (.int (bs.length : Int)) h := fun h => by rw [lenF_tup, bD_len]
  have ra : ∀ h, rangeF1 [.int (bs.length : Int)] h = .ok (.vals (iD (rangeI bs.length))) h := fun h => by rw [range1 (in62_lit (by omega) (by omega)), Int.toNat_natCast, rangeD_I]
  obtain ⟨g', z6, z7, z8, z9, lo⟩ := lives_loop (Z := Y.push (.lst (rs.map D.ref))) (x0 := some (.tup [.tup (bD bs), .tup (sD body)])) (x10 := none) (x11 := none) (os := os) (bs := bs) hR nb (l := Y.cs.length + 1 + 1) (by rw [push_len]; exact Nat.le_refl _) (List.range bs.length) none none none none [] [] (fun k q => List.mem_range.mp q) (by simp; omega) rfl
  have e1 : mid (Y.push (.lst (rs.map D.ref))) (.lst []) [] = (Y.push (.lst (rs.map D.ref))).push (.lst []) := by
    show PH.mk _ _ = PH.mk _ _
    rw [List.append_nil]
  rw [e1, List.nil_append] at lo
  rw [show (List.range bs.length).map (fun (k : Nat) => (k : Int)) = rangeI bs.length from rfl, push_len] at lo
  have p0 : lstF [] (Y.push (.lst (rs.map D.ref))) = .ok (.ref (Y.cs.length + 1)) ((Y.push (.lst (rs.map D.ref))).push (.lst [])) := by rw [lstF_ap (by simp), push_len]
  have ml : mrL (livesOf bs body os (rangeI bs.length)) = 0 := livesOf_mr
  have at1 : (mid (Y.push (.lst (rs.map D.ref))) (.lst (livesOf bs body os (rangeI bs.length))) g').at (Y.cs.length + 1) = some (.lst (livesOf bs body os (rangeI bs.length))) := by
    have := mid_at (h := Y.push (.lst (rs.map D.ref))) (c := .lst (livesOf bs body os (rangeI bs.length))) (g := g')
    rw [push_len] at this
    exact this
  have tu : tupleF (.ref (Y.cs.length + 1)) (mid (Y.push (.lst (rs.map D.ref))) (.lst (livesOf bs body os (rangeI bs.length))) g') = .ok (.tup (livesOf bs body os (rangeI bs.length))) (mid (Y.push (.lst (rs.map D.ref))) (.lst (livesOf bs body os (rangeI bs.length))) g') := tupleF_ref at1
  have gW : Grow h (mid (Y.push (.lst (rs.map D.ref))) (.lst (livesOf bs body os (rangeI bs.length))) g') := (gY.push _).trans mid_grow
  have bk := gW.back
  have lm := gW.lim
  have mx : max h.cs.length h.lim = h.cs.length := by omega
  have src : ∀ h, srcF (.tup (sD body)) h = .ok (.vals (sD body)) h := fun h => rfl
  have l2 : ((Y.push (.lst (rs.map D.ref))).push (.lst [])).cs.length = Y.cs.length + 1 + 1 := by rw [push_len, push_len]
  unfold envV at lo
  generalize mid (Y.push (.lst (rs.map D.ref))) (.lst (livesOf bs body os (rangeI bs.length))) g' = W at *
  generalize (Y.push (.lst (rs.map D.ref))).push (.lst []) = W1 at *
  generalize hY1 : Y.push (.lst (rs.map D.ref)) = Y1 at *
  generalize livesOf bs body os (rangeI bs.length) = L at *
  generalize rs.map D.ref = RS at *
  generalize sD body = SB at *
  generalize bD bs = B at *
  generalize iD (rangeI bs.length) = R at *
  generalize (bs.length : Int) = N at *
  unfold f_lives s_lives
  simp [src, y3, lr, hY1, p0, le, ra, l2, lo, tu, ml, lm, mx, bk, -lenF_tup, -lstF_ap, -push_ap, -range1, -tupleF_refO, -srcF_ref, setAll]
end
/-! ### the law's own lives -/
def lw1 : SM := asgS (compE (rngE rangeF1 (consA (nA (Dy.f1 lenF) (consA (vE 3) (nilA))) (nilA))) [15] (.one 15) t_law_3 e_law_3) (.one 7)
def lw2 : SM := asgS (ifE (tbT (b2E gtF (nA (Dy.f1 lenF) (consA (vE 7) (nilA))) (cE (.int 0)))) (b2E ixF (vE 7) (cE (.int 0))) (cE (.int 0))) (.one 8)
def lw3 : SM := asgS (ifE (tbT (b2E inF (vE 6) (vE 4))) (nA (Dy.f1 lenF) (consA (vE 3) (nilA))) (ifE (tbT (b2E gtF (nA (Dy.f1 lenF) (consA (vE 7) (nilA))) (cE (.int 0)))) (b2E ixF (vE 7) (u1E negF (cE (.int 1)))) (cE (.int 0)))) (.one 9)
def lw4 : SM := exprS (mtE "list" appF (vE 5) (consA (nA tupF (consA (vE 8) (consA (vE 9) (nilA)))) (nilA)))
theorem b_law_eq : b_law_2 = seqS (ifS (tbT (b2E eqF (b2E ixF (b2E ixF (vE 2) (vE 6)) (cE (.int 0))) (cE (.str "main")))) (seqS lw1 (seqS lw2 (seqS lw3 (seqS lw4 nextS)))) nextS) nextS := rfl
def envW (x0 x1 : Option D) (os : List Int) (bs : Bf) (body : List St) (F : Nat) (x6 x7 x8 x9 : Option D) : Dy.Env := [x0, x1, some (.tup (bD bs)), some (.tup (sD body)), some (.tup (iD os)), some (.ref F), x6, x7, x8, x9, none, none, none, none, none, none]
theorem atI_last {ds : List D} {d : D} : L2.atI (ds ++ [d]) (-1) = some d := by
  unfold L2.atI L2.ixN
  simp
  rw [if_pos (by omega)]
  show (ds ++ [d])[(-1 + ((ds.length : Int) + 1)).toNat]? = some d
  rw [show (-1 + ((ds.length : Int) + 1)).toNat = ds.length by omega, List.getElem?_append_right (Nat.le_refl _), Nat.sub_self]
  rfl
section
variable {Z : PH} {c : Cell} {g : List Cell} {x0 x1 x6 x7 x8 x9 : Option D} {os : List Int} {bs : Bf} {body : List St} {k : Int}
theorem lw1_ap {F : Nat} (zl : Z.lim ≤ Z.cs.length) (hs : ∀ s ∈ body, okS s) (nb : body.length ≤ 1000000) : lw1 (envW x0 x1 os bs body F (some (.int k)) x7 x8 x9) (mid Z c g) = .nxt (envW x0 x1 os bs body F (some (.int k)) (some (.ref (Z.cs.length + 1 + g.length))) x8 x9) (mid Z c (g ++ [.lst (iD (usOf body k))])) := by
  have le : ∀ h, lenF (.tup (sD body)) h = .ok (.int (body.length : Int)) h := fun h => by rw [lenF_tup, sD_len]
  have ra : ∀ h, rangeF1 [.int (body.length : Int)] h = .ok (.vals (iD (rangeI body.length))) h := fun h => by rw [range1 (in62_lit (by omega) (by omega)), Int.toNat_natCast, rangeD_I]
  have co := compV_map (t := .one 15) (tst := t_law_3) (elt := e_law_3) (e0 := envW x0 x1 os bs body F (some (.int k)) x7 x8 x9) (h := mid Z c g) (p := hitD body k) (g := id) (ds := iD (rangeI body.length)) (fun d hd => by
    obtain ⟨t, ht, rfl⟩ := List.mem_map.mp hd
    obtain ⟨n, hn, rfl⟩ := List.mem_map.mp ht
    have hn := List.mem_range.mp hn
    have hs1 : body[n]? = some body[n] := List.getElem?_eq_getElem hn
    have ok := hs _ (List.getElem_mem hn)
    have i1 : L2.atI (sD body) (n : Int) = some (encS body[n]) := by rw [Dy.atI_nat]; unfold sD; rw [List.getElem?_map, hs1]; rfl
    have i2 := lin_ap body[n] 11 k (by have := ok.1; omega) ok.2.2.2 (mid Z c g) (mid_grow.ok zl)
    have hh : hit body k (n : Int) = occS k body[n] := by
      unfold hit
      rw [Int.toNat_natCast, hs1]
    refine ⟨_, tgt_one, ?_, fun _ => ?_⟩
    · show _ = Res.ok (hit body k (n : Int)) _
      rw [hh]
      unfold t_law_3 envW
      generalize occS k body[n] = B at *
      generalize encS body[n] = ES at *
      generalize sD body = SB at *
      simp [i1, i2]
    · unfold e_law_3 envW
      simp)
  rw [hit_filter] at co
  have lu : (iD (usOf body k)).length ≤ 16777216 := by
    rw [iD_len]
    have := us_len (body := body) (k := k)
    omega
  have pu := mid_push (h := Z) (c := c) (d := .lst (iD (usOf body k))) (g := g)
  have ln := mid_len (h := Z) (c := c) (g := g)
  unfold envW at co ⊢
  generalize iD (usOf body k) = U at *
  generalize mid Z c (g ++ [.lst U]) = M2 at *
  generalize mid Z c g = M1 at *
  generalize iD (rangeI body.length) = R at *
  generalize (body.length : Int) = N at *
  generalize sD body = SB at *
  unfold lw1
  simp [le, ra, co, lu, pu, ln, -lenF_tup, -range1, -push_ap]
theorem lw2_ap {M : PH} {N7 F : Nat} {us : List Int} {n : Nat} (hU : M.at N7 = some (.lst (iD us))) (so : us.Pairwise (· < ·)) (hn : ∀ x ∈ us, x < (n : Int)) : lw2 (envW x0 x1 os bs body F x6 (some (.ref N7)) x8 x9) M = .nxt (envW x0 x1 os bs body F x6 (some (.ref N7)) (some (.int (FI us n))) x9) M := by
  unfold envW
  cases us with
  | nil =>
    have l0 : lenF (.ref N7) M = .ok (.int 0) M := by rw [lenF_refO, hU]; rfl
    unfold lw2 FI
    simp [l0, -lenF_refO]
  | cons u us =>
    have l0 : lenF (.ref N7) M = .ok (.int ((us.length : Int) + 1)) M := by rw [lenF_refO, hU]; show Res.ok (D.int (((iD (u :: us)).length : Nat) : Int)) _ = _; rw [iD_len]; simp
    have gt : (0 : Int) < (us.length : Int) + 1 := by omega
    rw [FI_head so hn]
    have i0 : ixF (.ref N7) (.int 0) M = .ok (.int u) M := by
      rw [ixF_refO, hU]
      show okO (L2.atI (iD (u :: us)) ((0 : Nat) : Int)) M = _
      rw [Dy.atI_nat]; rfl
    unfold lw2
    simp [l0, gt, i0, -ixF_refO, -lenF_refO]
theorem lw3_ap {M : PH} {N7 F : Nat} {us : List Int} (hU : M.at N7 = some (.lst (iD us))) (so : us.Pairwise (· < ·)) (h0 : ∀ x ∈ us, 0 ≤ x) : lw3 (envW x0 x1 os bs body F (some (.int k)) (some (.ref N7)) x8 x9) M = .nxt (envW x0 x1 os bs body F (some (.int k)) (some (.ref N7)) x8 (some (.int (LAo os body.length us k)))) M := by
  have le : ∀ h, lenF (.tup (sD body)) h = .ok (.int (body.length : Int)) h := fun h => by rw [lenF_tup, sD_len]
  have ii := fun h : PH => in_tupI (h := h) (xs := os) (k := k)
  unfold envW LAo
  generalize (os.any fun x => decide (x = k)) = B at *
  cases B with
  | true => unfold lw3; simp [le, ii, -lenF_tup]
  | false =>
    rcases List.eq_nil_or_concat us with e | ⟨r, u, e⟩
    · subst e
      have l0 : lenF (.ref N7) M = .ok (.int 0) M := by rw [lenF_refO, hU]; rfl
      have la : LA [] = 0 := rfl
      unfold lw3
      simp [le, ii, l0, la, -lenF_tup, -lenF_refO]
    · rw [List.concat_eq_append] at e
      subst e
      have l0 : lenF (.ref N7) M = .ok (.int ((r.length : Int) + 1)) M := by rw [lenF_refO, hU]; show Res.ok (D.int (((iD (r ++ [u])).length : Nat) : Int)) _ = _; rw [iD_len]; simp
      have gt : (0 : Int) < (r.length : Int) + 1 := by omega
      have i0 : ixF (.ref N7) (.int (-1)) M = .ok (.int u) M := by
        rw [ixF_refO, hU]
        show okO (L2.atI (iD (r ++ [u])) (-1)) M = _
        rw [iD_app, show iD [u] = [D.int u] from rfl, atI_last]; rfl
      rw [LA_last so h0]
      unfold lw3
      simp [le, ii, l0, gt, i0, -ixF_refO, -lenF_refO, -lenF_tup]
theorem lw4_ap {M : PH} {a b : Int} {F : Nat} {ds : List D} {M' : PH} (hF : M.at F = some (.lst ds)) (l : ds.length ≤ 1000) (hM : M.put F (.lst (ds ++ [.tup [.int a, .int b]])) = M') : lw4 (envW x0 x1 os bs body F x6 x7 (some (.int a)) (some (.int b))) M = .nxt (envW x0 x1 os bs body F x6 x7 (some (.int a)) (some (.int b))) M' := by
  have ap := app_ap (d := .tup [.int a, .int b]) hF (by omega)
  rw [hM] at ap
  have il := is_lst hF
  unfold envW lw4
  simp [ap, il, -appF_refO]
theorem lturn_ap {res : List D} {i : Nat} {b : Str × Int} (zl : Z.lim ≤ Z.cs.length) (hs : ∀ s ∈ body, okS s) (nb : body.length ≤ 1000000) (lr : res.length ≤ 1000) (mr : mrL res = 0) (hb : bs[i]? = some b) :
    ∃ g' x7' x8' x9', b_law_2 (envW x0 x1 os bs body Z.cs.length (some (.int (i : Int))) x7 x8 x9) (mid Z (.lst res) g) = .nxt (envW x0 x1 os bs body Z.cs.length (some (.int (i : Int))) x7' x8' x9') (mid Z (.lst (if isM bs i = true then res ++ [life body os i] else res)) g') := by
  have hm : isM bs (i : Int) = decide (b.1 = ("main" : Str)) := by unfold isM; rw [Int.toNat_natCast, hb]
  have ba := bs_at hb
  rw [hm]
  cases q : decide (b.1 = ("main" : Str)) with
  | false =>
    refine ⟨g, x7, x8, x9, ?_⟩
    have q' : ¬ b.1 = ("main" : Str) := of_decide_eq_false q
    rw [if_neg (by simp)]
    rw [b_law_eq]
    unfold envW
    generalize bD bs = B at *
    simp [ba, q']
  | true =>
    have q' : b.1 = ("main" : Str) := of_decide_eq_true q
    rw [if_pos rfl]
    have so := us_sorted (body := body) (k := (i : Int))
    have um := fun x (h : x ∈ usOf body (i : Int)) => us_mem h
    have r1 := lw1_ap (c := .lst res) (g := g) (x0 := x0) (x1 := x1) (x7 := x7) (x8 := x8) (x9 := x9) (os := os) (bs := bs) (k := (i : Int)) (F := Z.cs.length) zl hs nb
    have hU : (mid Z (.lst res) (g ++ [.lst (iD (usOf body i))])).at (Z.cs.length + 1 + g.length) = some (.lst (iD (usOf body i))) := by rw [mid_up, List.getElem?_append_right (Nat.le_refl _), Nat.sub_self]; rfl
    have r2 := lw2_ap (x0 := x0) (x1 := x1) (x6 := some (.int (i : Int))) (x8 := x8) (x9 := x9) (os := os) (bs := bs) (body := body) (F := Z.cs.length) (n := body.length) hU so (fun x h => (um x h).2)
    have r3 := lw3_ap (x0 := x0) (x1 := x1) (x8 := some (.int (FI (usOf body i) body.length))) (x9 := x9) (os := os) (bs := bs) (body := body) (F := Z.cs.length) (k := (i : Int)) hU so (fun x h => (um x h).1)
    have r4 := lw4_ap (x0 := x0) (x1 := x1) (x6 := some (.int (i : Int))) (x7 := some (.ref (Z.cs.length + 1 + g.length))) (os := os) (bs := bs) (body := body) (F := Z.cs.length) (a := FI (usOf body i) body.length) (b := LAo os body.length (usOf body i) i) (ds := res) mid_at lr (mid_put (c := .lst res) (g := g ++ [.lst (iD (usOf body i))]) (c' := .lst (res ++ [life body os i])) (by show mrL (res ++ [life body os i]) ≤ _; rw [mrL_append, mr]; exact Nat.zero_le _))
    refine ⟨g ++ [.lst (iD (usOf body i))], some (.ref (Z.cs.length + 1 + g.length)), some (.int (FI (usOf body i) body.length)), some (.int (LAo os body.length (usOf body i) i)), ?_⟩
    rw [b_law_eq]
    generalize mid Z (.lst (res ++ [life body os i])) (g ++ [.lst (iD (usOf body i))]) = M5 at *
    generalize mid Z (.lst res) (g ++ [.lst (iD (usOf body i))]) = M2 at *
    generalize mid Z (.lst res) g = M1 at *
    generalize FI (usOf body i) body.length = A at *
    generalize LAo os body.length (usOf body i) i = B9 at *
    generalize Z.cs.length + 1 + g.length = N7 at *
    unfold envW at *
    generalize bD bs = B at *
    simp [ba, q', r1, r2, r3, r4]
theorem due_loop (zl : Z.lim ≤ Z.cs.length) (hs : ∀ s ∈ body, okS s) (nb : body.length ≤ 1000000) {l : Nat} (hl : Z.cs.length + 1 ≤ l) : ∀ (ks : List Nat) (x6 x7 x8 x9 : Option D) (res : List D) (g : List Cell), (∀ k ∈ ks, k < bs.length) → res.length + ks.length ≤ 1000 → mrL res = 0 →
    ∃ g' x6' x7' x8' x9', forV (.one 6) b_law_2 l (iD (ks.map fun (k : Nat) => (k : Int))) (envW x0 x1 os bs body Z.cs.length x6 x7 x8 x9) (mid Z (.lst res) g) = .nxt (envW x0 x1 os bs body Z.cs.length x6' x7' x8' x9') (mid Z (.lst (res ++ livesOf bs body os (ks.map fun (k : Nat) => (k : Int)))) g') := by
  intro ks
  induction ks with
  | nil => intro x6 x7 x8 x9 res g _ _ _; exact ⟨g, x6, x7, x8, x9, by rw [show livesOf bs body os (List.map (fun (k : Nat) => (k : Int)) []) = [] from rfl, List.append_nil]; rfl⟩
  | cons k ks ih =>
    intro x6 x7 x8 x9 res g hk ln mr
    have hk1 := hk k List.mem_cons_self
    obtain ⟨b, hb⟩ : ∃ b, bs[k]? = some b := ⟨_, List.getElem?_eq_getElem hk1⟩
    rw [List.length_cons] at ln
    obtain ⟨g1, y7, y8, y9, t⟩ := lturn_ap (x0 := x0) (x1 := x1) (x7 := x7) (x8 := x8) (x9 := x9) (os := os) (g := g) (res := res) zl hs nb (by omega) mr hb
    obtain ⟨g2, e2⟩ := mid_gc (Z := Z) (g := g1) (c := .lst (if isM bs (k : Int) = true then res ++ [life body os k] else res)) (e := envW x0 x1 os bs body Z.cs.length (some (.int (k : Int))) y7 y8 y9) hl
    obtain ⟨g3, z6, z7, z8, z9, w⟩ := ih (some (.int (k : Int))) y7 y8 y9 (if isM bs (k : Int) = true then res ++ [life body os k] else res) g2 (fun k' h' => hk k' (List.mem_cons_of_mem _ h')) (by
      split
      · rw [List.length_append]; show res.length + 1 + _ ≤ _; omega
      · omega) (by
      split
      · rw [mrL_append, mr]; rfl
      · exact mr)
    refine ⟨g3, z6, z7, z8, z9, ?_⟩
    show forV (.one 6) b_law_2 l (D.int (k : Int) :: iD (ks.map fun (k : Nat) => (k : Int))) _ _ = _
    rw [forV_cons, tgt_one, tgtO_some]
    show (b_law_2 (envW x0 x1 os bs body Z.cs.length (some (.int (k : Int))) x7 x8 x9) (mid Z (.lst res) g)).nextV _ _ _ _ = _
    rw [t, nextV_nxt, e2, w]
    have e9 : (if isM bs (k : Int) = true then res ++ [life body os k] else res) ++ livesOf bs body os (ks.map fun (k : Nat) => (k : Int)) = res ++ livesOf bs body os ((k :: ks).map fun (k : Nat) => (k : Int)) := by
      unfold livesOf
      rw [List.map_cons, List.filter_cons]
      split
      · rw [List.map_cons, List.append_assoc]; rfl
      · rfl
    rw [e9]
end
/-! ### meet -/
theorem meet_ap {a b c d : Int} {h : PH} : f_meet [.tup [.int a, .int b], .tup [.int c, .int d]] h = .ok (.bl (decide (a ≤ d) && decide (c ≤ b))) h := by
  unfold f_meet s_meet
  by_cases q : a ≤ d
  · simp [q]
  · simp [q]
def pIn (c d : Int) : D → Bool
  | .int t => decide (c ≤ t) && decide (t ≤ d)
  | _ => false
theorem in_count {a b c d : Int} (h1 : a ≤ 4) (h2 : 4 ≤ b) (h3 : 8 ≤ d) (h4 : c ≤ 8) : (0 < ((((rangeD a 1 (b + 1 - a).toNat).filter (pIn c d)).map id).length : Int)) ↔ c ≤ b := by
  rw [List.length_map]
  constructor
  · intro h
    have : 0 < ((rangeD a 1 (b + 1 - a).toNat).filter (pIn c d)).length := by omega
    obtain ⟨x, hx⟩ := List.exists_mem_of_length_pos this
    obtain ⟨m1, m2⟩ := List.mem_filter.mp hx
    obtain ⟨i, hi, rfl⟩ := List.mem_map.mp m1
    have hi := List.mem_range.mp hi
    have m2 : (decide (c ≤ a + (i : Int) * 1) && decide (a + (i : Int) * 1 ≤ d)) = true := m2
    rw [Bool.and_eq_true, decide_eq_true_eq, decide_eq_true_eq] at m2
    omega
  · intro h
    have : D.int (max a c) ∈ (rangeD a 1 (b + 1 - a).toNat).filter (pIn c d) := by
      refine List.mem_filter.mpr ⟨List.mem_map.mpr ⟨(max a c - a).toNat, List.mem_range.mpr (by omega), ?_⟩, ?_⟩
      · show D.int _ = D.int _
        congr 1
        omega
      · show (decide (c ≤ max a c) && decide (max a c ≤ d)) = true
        rw [Bool.and_eq_true, decide_eq_true_eq, decide_eq_true_eq]
        omega
    have := List.length_pos_of_mem this
    omega
def envL (x0 x2 x3 x4 x5 x6 x7 x8 x9 x10 x11 x12 x13 x14 : Option D) : Dy.Env := [x0, some (.ref 1), x2, x3, x4, x5, x6, x7, x8, x9, x10, x11, x12, x13, x14, none]
section
variable {x0 x2 x3 x4 x5 x6 x7 x8 x9 x10 x11 x12 x13 x14 : Option D}
theorem mturn_ap {q : Dst} {rest : List Cell} : ∃ x12' x13' x14' q' rest', b_law_0 (envL x0 x2 x3 x4 x5 x6 x7 x8 x9 x10 x11 x12 x13 x14) (dh q rest) = .nxt (envL x0 x2 x3 x4 x5 x6 x7 x8 x9 x10 x11 x12' x13' x14') (dh q' rest') := by
  obtain ⟨a, q1, ea, ea', a0, a1⟩ := draw q 5 (by omega) (by omega)
  obtain ⟨b, q2, eb, eb', b0, b1⟩ := draw q1 5 (by omega) (by omega)
  obtain ⟨c, q3, ec, ec', c0, c1⟩ := draw q2 9 (by omega) (by omega)
  obtain ⟨d, q4, ed, ed', d0, d1⟩ := draw q3 5 (by omega) (by omega)
  have m1 : ∀ h, f_meet [.tup [.int a, .int (4 + b)], .tup [.int c, .int (8 + d)]] h = .ok (.bl (decide (c ≤ 4 + b))) h := fun h => by
    rw [meet_ap, decide_eq_true (show a ≤ 8 + d by omega), Bool.true_and]
  have m2 : ∀ h, f_meet [.tup [.int c, .int (8 + d)], .tup [.int a, .int (4 + b)]] h = .ok (.bl (decide (c ≤ 4 + b))) h := fun h => by
    rw [meet_ap, decide_eq_true (show a ≤ 8 + d by omega), Bool.and_true]
  have m3 : ∀ h, f_meet [.tup [.int a, .int (4 + b)], .tup [.int a, .int (4 + b)]] h = .ok (.bl true) h := fun h => by
    rw [meet_ap, decide_eq_true (show a ≤ 4 + b by omega)]; rfl
  have ra : ∀ h, rangeF2 [.int a, .int (4 + b + 1)] h = .ok (.vals (rangeD a 1 (4 + b + 1 - a).toNat)) h := fun h => range2 ⟨in62_lit (by omega) (by omega), in62_lit (by omega) (by omega)⟩
  have co := fun e0 (he : e0 = envL x0 x2 x3 x4 x5 x6 x7 x8 x9 x10 x11 (some (.tup [.int a, .int (4 + b)])) (some (.tup [.int c, .int (8 + d)])) (some (.bl (decide (c ≤ 4 + b))))) => compV_map (t := .one 15) (tst := t_law_1) (elt := e_law_1) (e0 := e0) (h := dh q4 rest) (p := pIn c (8 + d)) (g := id) (ds := rangeD a 1 (4 + b + 1 - a).toNat) (fun x hx => by
    subst he
    obtain ⟨n, hn, rfl⟩ := List.mem_map.mp hx
    refine ⟨_, tgt_one, ?_, fun _ => ?_⟩
    · show _ = Res.ok (decide (c ≤ a + (n : Int) * 1) && decide (a + (n : Int) * 1 ≤ 8 + d)) _
      generalize a + (n : Int) * 1 = T
      unfold t_law_1 envL
      by_cases z : c ≤ T
      · simp [z]
      · simp [z]
    · unfold e_law_1 envL
      simp)
  have co := co _ rfl
  have cnt := in_count (a := a) (b := 4 + b) (c := c) (d := 8 + d) (by omega) (by omega) (by omega) (by omega)
  have le : (((rangeD a 1 (4 + b + 1 - a).toNat).filter (pIn c (8 + d))).map id).length ≤ 16777216 := by
    rw [List.length_map]
    have := List.length_filter_le (pIn c (8 + d)) (rangeD a 1 (4 + b + 1 - a).toNat)
    have e : (rangeD a 1 (4 + b + 1 - a).toNat).length = (4 + b + 1 - a).toNat := by unfold rangeD; simp
    omega
  have gt : decide (0 < (((rangeD a 1 (4 + b + 1 - a).toNat).filter (pIn c (8 + d))).map id).length) = decide (c ≤ 4 + b) := decide_eq_decide.mpr (by rw [← cnt]; omega)
  refine ⟨some (.tup [.int a, .int (4 + b)]), some (.tup [.int c, .int (8 + d)]), some (.bl (decide (c ≤ 4 + b))), q4, rest ++ [.lst (((rangeD a 1 (4 + b + 1 - a).toNat).filter (pIn c (8 + d))).map id)], ?_⟩
  unfold envL at *
  generalize ((rangeD a 1 (4 + b + 1 - a).toNat).filter (pIn c (8 + d))).map id = CL at *
  generalize rangeD a 1 (4 + b + 1 - a).toNat = RL at *
  unfold b_law_0
  generalize decide (c ≤ 4 + b) = B at *
  simp [ea, ea', eb, eb', ec, ec', ed, ed', m1, m2, m3, ra, co, le, gt, -range2]
end
/-! ### drawn forms -/
def fm (q : Dst) (rest : List Cell) (c : Cell) (g : List Cell) : PH := dh q (rest ++ [c] ++ g)
section
variable {q : Dst} {rest g : List Cell} {c c' : Cell} {m : Int}
theorem fm_mid : fm q rest c g = mid (dh q rest) c g := rfl
theorem fm_take (hm : 0 < m) (hz : sm m) : f_take [.ref 1, .int m] (fm q rest c g) = .ok (.int (takeV q m)) (fm (takeQ q m) rest c g) := take_ap hm hz
theorem fm_at : (fm q rest c g).at (rest.length + 2) = some c := by
  have := mid_at (h := dh q rest) (c := c) (g := g)
  rw [dh_len] at this
  exact this
theorem fm_lt {n : Nat} {d : Cell} (h : rest[n]? = some d) : (fm q rest c g).at (n + 2) = some d := by
  have hn := (List.getElem?_eq_some_iff.mp h).1
  show (rest ++ [c] ++ g)[n]? = _
  rw [List.append_assoc, List.getElem?_append_left hn]
  exact h
theorem fm_put (z : c'.mr ≤ rest.length + 2) : (fm q rest c g).put (rest.length + 2) c' = fm q rest c' g := by
  have := mid_put (h := dh q rest) (c := c) (c' := c') (g := g) (by rw [dh_len]; exact z)
  rw [dh_len] at this
  exact this
theorem fm_push {d : Cell} : (fm q rest c g).push d = fm q rest c (g ++ [d]) := mid_push (h := dh q rest) (c := c) (g := g) (d := d)
theorem fm_len : (fm q rest c g).cs.length = rest.length + 2 + 1 + g.length := by
  rw [fm_mid, mid_len, dh_len]
theorem fm_gc {l : Nat} {e : Dy.Env} (z : rest.length + 3 ≤ l) : ∃ g', (fm q rest c g).gc l e = fm q rest c g' := mid_gc (Z := dh q rest) (c := c) (g := g) (by rw [dh_len]; exact z)
theorem fm_cut {k : Nat} (z : rest.length + 2 = k) : (fm q rest c g).cut k = dh q rest := by
  have := (mid_grow (h := dh q rest) (c := c) (g := g)).back
  rw [dh_len, z] at this
  exact this
end
theorem pick4 {r : Int} (h0 : 0 ≤ r) (h1 : r < 4) : ∃ f : Int, -1 ≤ f ∧ f ≤ 2 ∧ ∀ h, ixF (.tup [.int 1, .int 1, .int 2, .int (-1)]) (.int r) h = .ok (.int f) h := by
  rcases (show r = 0 ∨ r = 1 ∨ r = 2 ∨ r = 3 by omega) with rfl | rfl | rfl | rfl
  · exact ⟨1, by omega, by omega, fun h => rfl⟩
  · exact ⟨1, by omega, by omega, fun h => rfl⟩
  · exact ⟨2, by omega, by omega, fun h => rfl⟩
  · exact ⟨-1, by omega, by omega, fun h => rfl⟩
def mulD (f : Int) : D → D
  | .int v => .int (f * v)
  | d => d
theorem mul_map {f : Int} : ∀ vs : List Int, ((iD vs).filter fun _ => true).map (mulD f) = iD (vs.map fun v => f * v)
  | [] => rfl
  | v :: r => by
    have := mul_map (f := f) r
    show .int (f * v) :: ((iD r).filter fun _ => true).map (mulD f) = _
    rw [this]; rfl
theorem sm_small {v : Int} (h : -1000 ≤ v ∧ v ≤ 1000) : sm v := sm_lt (by omega) (by omega)
theorem form_body {q : Dst} {rest g : List Cell} {ts : List D} {low high size var : Int} {L : Nat} {v0 : Int} {vs : List Int} {x1 x8 x9 : Option D} (hL : rest[L]? = some (.lst (iD (v0 :: vs)))) (hv : ∀ v ∈ v0 :: vs, -1000 ≤ v ∧ v ≤ 1000) (lv : (v0 :: vs).length ≤ 1000) (lt : ts.length ≤ 1000) (mt : mrL ts = 0) (i1 : low ≤ high) (i2 : high - low < size) :
    ∃ q' g' ts' low' high' x8' x9', ts'.length ≤ ts.length + 1 ∧ mrL ts' = 0 ∧ low' ≤ high' ∧ high' - low' < size ∧
    b__law_form_0 [some (.ref 1), x1, some (.int size), some (.ref (rest.length + 2)), some (.int low), some (.int high), some (.int var), some (.ref (L + 2)), x8, x9, none] (fm q rest (.lst ts) g) = .nxt [some (.ref 1), x1, some (.int size), some (.ref (rest.length + 2)), some (.int low'), some (.int high'), some (.int var), some (.ref (L + 2)), x8', x9', none] (fm q' rest (.lst ts') g') := by
  obtain ⟨r, q1, ea, ea', a0, a1⟩ := draw q 3 (by omega) (by omega)
  have t1 := fm_take (q := q) (rest := rest) (c := .lst ts) (g := g) (m := 3) (by omega) (sm_lt (by omega) (by omega))
  rw [ea, ea'] at t1
  by_cases hr : 0 < r
  · obtain ⟨r2, q2, eb, eb', b0, b1⟩ := draw q1 4 (by omega) (by omega)
    have t2 := fm_take (q := q1) (rest := rest) (c := .lst ts) (g := g) (m := 4) (by omega) (sm_lt (by omega) (by omega))
    rw [eb, eb'] at t2
    obtain ⟨f, f0, f1, fx⟩ := pick4 b0 b1
    have atL := fm_lt (q := q2) (c := .lst ts) (g := g) hL
    have cm := cm_cell (h := fm q2 rest (.lst ts) g) (n := L + 2) (own := [10]) (t := .one 10) (tst := yesT) (elt := e__law_form_1) (e := [some (.ref 1), x1, some (.int size), some (.ref (rest.length + 2)), some (.int low), some (.int high), some (.int var), some (.ref (L + 2)), some (.int f), x9, none]) (p := fun _ => true) (g := mulD f) atL (by rw [iD_len]; omega) (fun d hd => by
      obtain ⟨v, hv1, rfl⟩ := List.mem_map.mp hd
      have z1 := sm_small (hv v hv1)
      have z2 := sm_small (v := f) (by omega)
      refine ⟨_, tgt_one, yesT_ap, fun _ => ?_⟩
      unfold e__law_form_1 mulD
      simp [z1, z2])
    rw [mul_map, fm_push, fm_len] at cm
    have sr : srcF (.ref (L + 2)) (fm q2 rest (.lst ts) g) = .ok (.cell (L + 2)) (fm q2 rest (.lst ts) g) := by rw [srcF_ref, atL]; rfl
    have at3 : (fm q2 rest (.lst ts) (g ++ [.lst (iD ((v0 :: vs).map fun v => f * v))])).at (rest.length + 2 + 1 + g.length) = some (.lst (iD ((v0 :: vs).map fun v => f * v))) := by
      have := mid_up (h := dh q2 rest) (c := .lst ts) (g := g ++ [.lst (iD ((v0 :: vs).map fun v => f * v))]) (n := g.length)
      rw [dh_len] at this
      rw [fm_mid, this, List.getElem?_append_right (Nat.le_refl _), Nat.sub_self]
      rfl
    have mx := max_ap at3
    have mn := min_ap at3
    have mm : minI ((f * v0) :: vs.map fun v => f * v) ≤ maxI ((f * v0) :: vs.map fun v => f * v) := by
      have h1 := (minI_spec (ns := (f * v0) :: vs.map fun v => f * v) (by simp)).2 (f * v0) (by simp)
      have h2 := (maxI_spec (ns := (f * v0) :: vs.map fun v => f * v) (by simp)).2 (f * v0) (by simp)
      omega
    generalize minI ((f * v0) :: vs.map fun v => f * v) = MN at *
    generalize maxI ((f * v0) :: vs.map fun v => f * v) = MX at *
    have at4 := fm_at (q := q2) (rest := rest) (c := .lst ts) (g := g ++ [.lst (iD ((v0 :: vs).map fun v => f * v))])
    have ap := app_ap (d := .tup [.int var, .int f]) at4 (by omega)
    rw [fm_put (by show mrL (ts ++ [.tup [.int var, .int f]]) ≤ _; rw [mrL_append, mt]; exact Nat.zero_le _)] at ap
    have il := is_lst at4
    have at5 : (fm q2 rest (.lst (ts ++ [.tup [.int var, .int f]])) (g ++ [.lst (iD ((v0 :: vs).map fun v => f * v))])).at (rest.length + 2 + 1 + g.length) = some (.lst (iD ((v0 :: vs).map fun v => f * v))) := by
      have := mid_up (h := dh q2 rest) (c := .lst (ts ++ [.tup [.int var, .int f]])) (g := g ++ [.lst (iD ((v0 :: vs).map fun v => f * v))]) (n := g.length)
      rw [dh_len] at this
      rw [fm_mid, this, List.getElem?_append_right (Nat.le_refl _), Nat.sub_self]
      rfl
    have mx2 : max1F (.ref (rest.length + 2 + 1 + g.length)) _ = _ := max_ap at5
    have mn2 : min1F (.ref (rest.length + 2 + 1 + g.length)) _ = _ := min_ap at5
    have emx : maxI ((f * v0) :: vs.map fun v => f * v) = MX := by
      have a := max_ap at3
      have b : max1F (.ref (rest.length + 2 + 1 + g.length)) _ = Res.ok (D.int (maxI ((f * v0) :: vs.map fun v => f * v))) _ := a
      rw [mx] at b
      injection b with b _
      injection b with b
      exact b.symm
    have emn : minI ((f * v0) :: vs.map fun v => f * v) = MN := by
      have a := min_ap at3
      have b : min1F (.ref (rest.length + 2 + 1 + g.length)) _ = Res.ok (D.int (minI ((f * v0) :: vs.map fun v => f * v))) _ := a
      rw [mn] at b
      injection b with b _
      injection b with b
      exact b.symm
    rw [emx] at mx2
    rw [emn] at mn2
    by_cases cnd : high + MX - low - MN < size
    · refine ⟨q2, g ++ [.lst (iD ((v0 :: vs).map fun v => f * v))], ts ++ [.tup [.int var, .int f]], low + MN, high + MX, some (.int f), some (.ref (rest.length + 2 + 1 + g.length)), by rw [List.length_append]; exact Nat.le_refl _, by rw [mrL_append, mt]; rfl, by omega, by omega, ?_⟩
      generalize iD ((v0 :: vs).map fun v => f * v) = EL at *
      generalize fm q2 rest (.lst (ts ++ [.tup [.int var, .int f]])) (g ++ [.lst EL]) = H4 at *
      generalize fm q2 rest (.lst ts) (g ++ [.lst EL]) = H3 at *
      generalize fm q2 rest (.lst ts) g = H2 at *
      generalize fm q1 rest (.lst ts) g = H1 at *
      generalize fm q rest (.lst ts) g = H0 at *
      generalize rest.length + 2 + 1 + g.length = N9 at *
      unfold b__law_form_0
      simp [t1, hr, t2, fx, sr, cm, mx, mn, cnd, il, ap, mx2, mn2, -srcF_ref, -appF_refO, -ixF_tupO]
    · refine ⟨q2, g ++ [.lst (iD ((v0 :: vs).map fun v => f * v))], ts, low, high, some (.int f), some (.ref (rest.length + 2 + 1 + g.length)), by omega, mt, i1, i2, ?_⟩
      generalize iD ((v0 :: vs).map fun v => f * v) = EL at *
      generalize fm q2 rest (.lst ts) (g ++ [.lst EL]) = H3 at *
      generalize fm q2 rest (.lst ts) g = H2 at *
      generalize fm q1 rest (.lst ts) g = H1 at *
      generalize fm q rest (.lst ts) g = H0 at *
      generalize rest.length + 2 + 1 + g.length = N9 at *
      unfold b__law_form_0
      simp [t1, hr, t2, fx, sr, cm, mx, mn, cnd, -srcF_ref, -appF_refO, -ixF_tupO]
  · refine ⟨q1, g, ts, low, high, x8, x9, by omega, mt, i1, i2, ?_⟩
    generalize fm q1 rest (.lst ts) g = H1 at *
    generalize fm q rest (.lst ts) g = H0 at *
    unfold b__law_form_0
    simp [t1, hr]
def Vars (rest : List Cell) (ds : List D) : Prop := ∀ d ∈ ds, ∃ (v : Int) (L : Nat) (v0 : Int) (vs : List Int), d = .tup [.int v, .ref (L + 2)] ∧ rest[L]? = some (.lst (iD (v0 :: vs))) ∧ (∀ x ∈ v0 :: vs, -1000 ≤ x ∧ x ≤ 1000) ∧ (v0 :: vs).length ≤ 1000
def EnvOk (rest : List Cell) (env : D) : Prop := ∃ (E : Nat) (ds : List D), env = .ref (E + 2) ∧ rest[E]? = some (.lst ds) ∧ ds.length ≤ 100 ∧ Vars rest ds
theorem form_loop {rest : List Cell} {ds : List D} {E l : Nat} {size : Int} {x1 : Option D} (hE : rest[E]? = some (.lst ds)) (hd : Vars rest ds) (hl : rest.length + 3 ≤ l) : ∀ (n i : Nat) (q : Dst) (g : List Cell) (ts : List D) (low high : Int) (x6 x7 x8 x9 : Option D), i + n = ds.length → ts.length + n ≤ 1000 → mrL ts = 0 → low ≤ high → high - low < size →
    ∃ q' g' ts' low' high' x6' x7' x8' x9', ts'.length ≤ 1000 ∧ mrL ts' = 0 ∧ low' ≤ high' ∧ high' - low' < size ∧
    forL (.many [6, 7]) b__law_form_0 (.cell (E + 2)) l (n + 1) i [some (.ref 1), x1, some (.int size), some (.ref (rest.length + 2)), some (.int low), some (.int high), x6, x7, x8, x9, none] (fm q rest (.lst ts) g) = .nxt [some (.ref 1), x1, some (.int size), some (.ref (rest.length + 2)), some (.int low'), some (.int high'), x6', x7', x8', x9', none] (fm q' rest (.lst ts') g') := by
  intro n
  induction n with
  | zero =>
    intro i q g ts low high x6 x7 x8 x9 hi lt mt i1 i2
    refine ⟨q, g, ts, low, high, x6, x7, x8, x9, by omega, mt, i1, i2, ?_⟩
    rw [forL_end (by rw [item_cell (fm_lt hE), List.getElem?_eq_none (by omega)])]
  | succ n ih =>
    intro i q g ts low high x6 x7 x8 x9 hi lt mt i1 i2
    have hi2 : i < ds.length := by omega
    have gi : ds[i]? = some ds[i] := List.getElem?_eq_getElem hi2
    obtain ⟨v, L, v0, vs, e1, e2, e3, e4⟩ := hd _ (List.getElem_mem hi2)
    rw [e1] at gi
    obtain ⟨q', g', ts', low', high', x8', x9', k1, k2, k3, k4, b⟩ := form_body (q := q) (g := g) (var := v) (x1 := x1) (x8 := x8) (x9 := x9) e2 e3 e4 (by omega) mt i1 i2
    obtain ⟨g2, eg⟩ := fm_gc (q := q') (rest := rest) (c := .lst ts') (g := g') (e := [some (.ref 1), x1, some (.int size), some (.ref (rest.length + 2)), some (.int low'), some (.int high'), some (.int v), some (.ref (L + 2)), x8', x9', none]) hl
    obtain ⟨q3, g3, ts3, low3, high3, y6, y7, y8, y9, j1, j2, j3, j4, w⟩ := ih (i + 1) q' g2 ts' low' high' (some (.int v)) (some (.ref (L + 2))) x8' x9' (by omega) (by omega) k2 k3 k4
    refine ⟨q3, g3, ts3, low3, high3, y6, y7, y8, y9, j1, j2, j3, j4, ?_⟩
    rw [forL_go (d := .tup [.int v, .ref (L + 2)]) (by rw [item_cell (fm_lt hE), gi]) (tgt_tup rfl)]
    show (b__law_form_0 [some (.ref 1), x1, some (.int size), some (.ref (rest.length + 2)), some (.int low), some (.int high), some (.int v), some (.ref (L + 2)), x8, x9, none] (fm q rest (.lst ts) g)).next _ _ _ _ _ _ = _
    rw [b, next_nxt, eg, w]
theorem form_ap {q : Dst} {rest : List Cell} {env : D} {size : Int} (he : EnvOk rest env) (s0 : 0 < size) (s1 : size ≤ 1000) : ∃ (o : Op) (q' : Dst), f__law_form [.ref 1, env, .int size] (dh q rest) = .ok o.d (dh q' rest) := by
  obtain ⟨E, ds, rfl, hE, ln, hd⟩ := he
  obtain ⟨q1, g1, ts, low, high, x6, x7, x8, x9, k1, k2, k3, k4, lo⟩ := form_loop (x1 := some (.ref (E + 2))) hE hd (l := rest.length + 3) (Nat.le_refl _) (size := size) ds.length 0 q [] [] 0 0 none none none none (by omega) (by simp; omega) rfl (by omega) (by omega)
  obtain ⟨r, q2, ea, ea', a0, a1⟩ := draw q1 (size - high + low) (by omega) (by omega)
  have t1 := fm_take (q := q1) (rest := rest) (c := .lst ts) (g := g1) (m := size - high + low) (by omega) (sm_lt (by omega) (by omega))
  rw [ea, ea'] at t1
  have p0 : lstF [] (dh q rest) = .ok (.ref (rest.length + 2)) (fm q rest (.lst []) []) := by
    rw [lstF_ap (by simp)]
    show Res.ok _ (dh q (rest ++ [.lst []])) = Res.ok _ (dh q (rest ++ [.lst []] ++ []))
    rw [List.append_nil]; rfl
  have atE := fm_lt (q := q) (c := .lst []) (g := []) hE
  have sr : srcF (.ref (E + 2)) (fm q rest (.lst []) []) = .ok (.cell (E + 2)) (fm q rest (.lst []) []) := by rw [srcF_ref, atE]; rfl
  have fu : (Src.cell (E + 2)).fuel (fm q rest (.lst []) []) = ds.length + 1 := by
    show (match (fm q rest (.lst []) []).cs[E + 2]? with | some (.lst ds) => ds.length + 1 | _ => 0) = _
    rw [show (fm q rest (.lst []) []).cs[E + 2]? = some (.lst ds) from atE]
  have lp : ∀ e, (Res.ok (.cell (E + 2)) (fm q rest (.lst []) [])).lp (.many [6, 7]) b__law_form_0 e = forL (.many [6, 7]) b__law_form_0 (.cell (E + 2)) (rest.length + 3) (ds.length + 1) 0 e (fm q rest (.lst []) []) := fun e => by
    rw [lp_cell, fu, fm_len]; rfl
  have tu : tupleF (.ref (rest.length + 2)) (fm q2 rest (.lst ts) g1) = .ok (.tup ts) (fm q2 rest (.lst ts) g1) := tupleF_ref fm_at
  have cu := fm_cut (q := q2) (rest := rest) (c := .lst ts) (g := g1) rfl
  have lm : (fm q2 rest (.lst ts) g1).lim = 0 := rfl
  refine ⟨⟨.tup [.int (r - low), .tup ts], by simp [k2]⟩, q2, ?_⟩
  generalize fm q2 rest (.lst ts) g1 = H2 at *
  generalize fm q1 rest (.lst ts) g1 = H1 at *
  generalize fm q rest (.lst []) [] = H0 at *
  unfold f__law_form s__law_form
  simp [p0, sr, lp, lo, t1, tu, k2, lm, cu, -srcF_ref, -lstF_ap, -tupleF_refO]
/-! ### comprehensions that draw -/
theorem comp_dr {α : Type} {enc : α → D} {P : α → Prop} {rest : List Cell} {t : Tgt} {elt : EM} {e0 : Dy.Env} : ∀ (ds : List D), (∀ (q : Dst) (d : D), d ∈ ds → ∃ e1 a q', tgt t d e0 (dh q rest) = some e1 ∧ P a ∧ elt e1 (dh q rest) = .ok (enc a) (dh q' rest)) → ∀ q : Dst, ∃ (as : List α) (q' : Dst), as.length = ds.length ∧ (∀ a ∈ as, P a) ∧ compV t yesT elt e0 ds (dh q rest) = .ok (as.map enc) (dh q' rest) := by
  intro ds
  induction ds with
  | nil => intro _ q; exact ⟨[], q, rfl, fun _ h => (by cases h), rfl⟩
  | cons d ds ih =>
    intro H q
    obtain ⟨e1, a, q1, h1, h2, h3⟩ := H q d List.mem_cons_self
    obtain ⟨as, q2, k1, k2, k3⟩ := ih (fun q d h => H q d (List.mem_cons_of_mem _ h)) q1
    refine ⟨a :: as, q2, by simp [k1], fun x hx => ?_, ?_⟩
    · rcases List.mem_cons.mp hx with e | e
      · rw [e]; exact h2
      · exact k2 x e
    · have cu : (dh q1 rest).cut (max (dh q rest).cs.length (max (dh q1 rest).lim (enc a).mr)) = dh q1 rest := cut_ge (by rw [dh_len, dh_len]; omega)
      rw [compV_cons, h1, compT_some, yesT_ap, cp1_true, h3, cp2_ok, cu, k3]
      rfl
theorem compC_dr {α : Type} {enc : α → D} {P : α → Prop} {rest : List Cell} {t : Tgt} {elt : EM} {e0 : Dy.Env} {n : Nat} {ds : List D} (hn : rest[n]? = some (.lst ds)) (H : ∀ (q : Dst) (d : D), d ∈ ds → ∃ e1 a q', tgt t d e0 (dh q rest) = some e1 ∧ P a ∧ elt e1 (dh q rest) = .ok (enc a) (dh q' rest)) : ∀ (f i : Nat) (q : Dst), i + f = ds.length → ∃ (as : List α) (q' : Dst), as.length = f ∧ (∀ a ∈ as, P a) ∧ compL t yesT elt (.cell (n + 2)) e0 (f + 1) i (dh q rest) = .ok (as.map enc) (dh q' rest) := by
  intro f
  induction f with
  | zero =>
    intro i q hi
    refine ⟨[], q, rfl, fun _ h => (by cases h), ?_⟩
    rw [compL, item_cell (show (dh q rest).cs[n + 2]? = some (.lst ds) from hn), List.getElem?_eq_none (by omega)]
    rfl
  | succ f ih =>
    intro i q hi
    have hi2 : i < ds.length := by omega
    have e9 : ds[i]? = some ds[i] := List.getElem?_eq_getElem hi2
    obtain ⟨e1, a, q1, h1, h2, h3⟩ := H q ds[i] (List.getElem_mem hi2)
    obtain ⟨as, q2, k1, k2, k3⟩ := ih (i + 1) q1 (by omega)
    refine ⟨a :: as, q2, by simp [k1], fun x hx => ?_, ?_⟩
    · rcases List.mem_cons.mp hx with e | e
      · rw [e]; exact h2
      · exact k2 x e
    · have cu : (dh q1 rest).cut (max (dh q rest).cs.length (max (dh q1 rest).lim (enc a).mr)) = dh q1 rest := cut_ge (by rw [dh_len, dh_len]; omega)
      rw [compL, item_cell (show (dh q rest).cs[n + 2]? = some (.lst ds) from hn), e9]
      simp only [h1, yesT_ap, bind_ok, h3, cu, k3]
      rfl
theorem cmC_dr {α : Type} {enc : α → D} {P : α → Prop} {rest : List Cell} {t : Tgt} {elt : EM} {own : List Nat} {e : Dy.Env} {n : Nat} {ds : List D} (q : Dst) (hn : rest[n]? = some (.lst ds)) (l : ds.length ≤ 16777216) (H : ∀ (q : Dst) (d : D), d ∈ ds → ∃ e1 a q', tgt t d (wipeE e own) (dh q rest) = some e1 ∧ P a ∧ elt e1 (dh q rest) = .ok (enc a) (dh q' rest)) : ∃ (as : List α) (q' : Dst), as.length = ds.length ∧ (∀ a ∈ as, P a) ∧ (Res.ok (.cell (n + 2)) (dh q rest)).cm own t yesT elt e = .ok (.ref (rest.length + 2)) (dh q' (rest ++ [.lst (as.map enc)])) := by
  obtain ⟨as, q', k1, k2, k3⟩ := compC_dr hn H ds.length 0 q (by omega)
  refine ⟨as, q', k1, k2, ?_⟩
  have fu : (Src.cell (n + 2)).fuel (dh q rest) = ds.length + 1 := by
    show (match (dh q rest).cs[n + 2]? with | some (.lst ds) => ds.length + 1 | _ => 0) = _
    rw [show (dh q rest).cs[n + 2]? = some (.lst ds) from hn]
  show (noX (compL t yesT elt (.cell (n + 2)) (wipeE e own) ((Src.cell (n + 2)).fuel (dh q rest)) 0 (dh q rest))).bind finL = _
  rw [fu, k3]
  exact fl_ok (h := dh q' rest) (by rw [List.length_map]; omega)
/-! ### drawn tests, fields -/
theorem signed_ap {q : Dst} {rest : List Cell} {m : Int} (h0 : 0 ≤ m) (h1 : m ≤ 1000) : ∃ (r : Int) (q' : Dst), f__law_signed [.ref 1, .int m] (dh q rest) = .ok (.int r) (dh q' rest) ∧ -m ≤ r ∧ r ≤ m := by
  obtain ⟨r, q1, ea, ea', a0, a1⟩ := draw q (2 * m + 1) (by omega) (by omega)
  refine ⟨r - m, q1, ?_, by omega, by omega⟩
  have z1 : sm m := sm_lt (by omega) (by omega)
  have z2 : sm (2 * m + 1) := sm_lt (by omega) (by omega)
  have z3 : 0 < 2 * m + 1 := by omega
  unfold f__law_signed s__law_signed
  simp [ea, ea', z1, z2, z3]
theorem pick3 {r : Int} (h0 : 0 ≤ r) (h1 : r < 3) : ∃ f : Int, ∀ h, ixF (.tup [.int 1, .int (-1), .int 2]) (.int r) h = .ok (.int f) h := by
  rcases (show r = 0 ∨ r = 1 ∨ r = 2 by omega) with rfl | rfl | rfl
  · exact ⟨1, fun h => rfl⟩
  · exact ⟨-1, fun h => rfl⟩
  · exact ⟨2, fun h => rfl⟩
theorem Vars.app {rest g : List Cell} {ds : List D} (h : Vars rest ds) : Vars (rest ++ g) ds := fun d hd => by
  obtain ⟨v, L, v0, vs, e1, e2, e3, e4⟩ := h d hd
  exact ⟨v, L, v0, vs, e1, by rw [List.getElem?_append_left (List.getElem?_eq_some_iff.mp e2).1]; exact e2, e3, e4⟩
theorem EnvOk.app {rest g : List Cell} {env : D} (h : EnvOk rest env) : EnvOk (rest ++ g) env := by
  obtain ⟨E, ds, e1, e2, e3, e4⟩ := h
  exact ⟨E, ds, e1, by rw [List.getElem?_append_left (List.getElem?_eq_some_iff.mp e2).1]; exact e2, e3, e4.app⟩
theorem mr_op {as : List Op} : mrL (as.map Op.d) = 0 := by
  induction as with
  | nil => rfl
  | cons a r ih => show max a.d.mr (mrL (r.map Op.d)) = 0; rw [ih, a.h]; rfl
theorem test_ap {q : Dst} {rest : List Cell} {env : D} (he : EnvOk rest env) : ∃ (o : Op) (q' : Dst), f__law_test [.ref 1, env] (dh q rest) = .ok o.d (dh q' rest) := by
  obtain ⟨E, ds, rfl, hE, ln, hd⟩ := he
  have cl : (Dy.cutD ds none (some 2)).length ≤ 100 ∧ ∀ d ∈ Dy.cutD ds none (some 2), d ∈ ds := by
    unfold Dy.cutD
    refine ⟨?_, fun d h => List.mem_of_mem_drop (List.mem_of_mem_take h)⟩
    rw [List.length_take, List.length_drop]
    omega
  obtain ⟨c1, c2⟩ := cl
  have sl := sl_ref (h := dh q rest) (n := E + 2) (ds := ds) (lo := none) (hi := some 2) hE
  rw [dh_push, dh_len] at sl
  have at1 : (rest ++ [Cell.lst (Dy.cutD ds none (some 2))])[rest.length]? = some (.lst (Dy.cutD ds none (some 2))) := by rw [List.getElem?_append_right (Nat.le_refl _), Nat.sub_self]; rfl
  obtain ⟨as, q1, k1, _, k3⟩ := cmC_dr (α := Op) (enc := Op.d) (P := fun _ => True) (t := .many [3, 4]) (elt := e__law_test_0) (own := [3, 4]) (e := [some (.ref 1), some (.ref (E + 2)), none, none, none]) q at1 (by omega) (fun q d hd' => by
    obtain ⟨v, L, v0, vs, e1, e2, e3, e4⟩ := hd d (c2 d hd')
    obtain ⟨r, q1, ea, ea', a0, a1⟩ := draw q 3 (by omega) (by omega)
    obtain ⟨f, fx⟩ := pick3 a0 a1
    subst e1
    refine ⟨_, ⟨.tup [.int v, .int f], rfl⟩, q1, tgt_tup rfl, trivial, ?_⟩
    unfold e__law_test_0
    simp [setAll, ea, ea', fx, -ixF_tupO])
  have tu : tupleF (.ref (rest.length + 1 + 2)) (dh q1 (rest ++ [Cell.lst (Dy.cutD ds none (some 2))] ++ [.lst (as.map Op.d)])) = .ok (.tup (as.map Op.d)) (dh q1 (rest ++ [Cell.lst (Dy.cutD ds none (some 2))] ++ [.lst (as.map Op.d)])) := tupleF_ref (by
    show (rest ++ [Cell.lst (Dy.cutD ds none (some 2))] ++ [Cell.lst (as.map Op.d)])[rest.length + 1]? = _
    rw [List.getElem?_append_right (by simp), List.length_append]
    simp)
  obtain ⟨r2, q2, t2, _, _⟩ := signed_ap (q := q1) (rest := rest ++ [Cell.lst (Dy.cutD ds none (some 2))] ++ [.lst (as.map Op.d)]) (m := 2) (by omega) (by omega)
  have cu : (dh q2 (rest ++ [Cell.lst (Dy.cutD ds none (some 2))] ++ [.lst (as.map Op.d)])).cut (rest.length + 2) = dh q2 rest := by
    rw [dh_cut, List.append_assoc, List.take_append_of_le_length (Nat.le_refl _), List.take_length]
  have sr : srcF (.ref (rest.length + 2)) (dh q (rest ++ [Cell.lst (Dy.cutD ds none (some 2))])) = .ok (.cell (rest.length + 2)) (dh q (rest ++ [Cell.lst (Dy.cutD ds none (some 2))])) := by rw [srcF_ref, dh_cs, at1]; rfl
  have mm : mrL (as.map Op.d) = 0 := mr_op
  rw [List.length_append] at k3
  have k3 : (Res.ok (.cell (rest.length + 2)) (dh q (rest ++ [Cell.lst (Dy.cutD ds none (some 2))]))).cm [3, 4] (.many [3, 4]) yesT e__law_test_0 [some (.ref 1), some (.ref (E + 2)), none, none, none] = .ok (.ref (rest.length + 1 + 2)) (dh q1 (rest ++ [Cell.lst (Dy.cutD ds none (some 2))] ++ [.lst (as.map Op.d)])) := k3
  have lm : (dh q2 (rest ++ [Cell.lst (Dy.cutD ds none (some 2))] ++ [.lst (as.map Op.d)])).lim = 0 := rfl
  refine ⟨⟨.tup [.int r2, .tup (as.map Op.d)], by simp [mm]⟩, q2, ?_⟩
  generalize dh q2 (rest ++ [Cell.lst (Dy.cutD ds none (some 2))] ++ [.lst (as.map Op.d)]) = H3 at *
  generalize dh q1 (rest ++ [Cell.lst (Dy.cutD ds none (some 2))] ++ [.lst (as.map Op.d)]) = H2 at *
  generalize dh q (rest ++ [Cell.lst (Dy.cutD ds none (some 2))]) = H1 at *
  generalize as.map Op.d = AD at *
  unfold f__law_test s__law_test
  simp [sl, sr, k3, tu, t2, mm, lm, cu, -srcF_ref, -tupleF_refO]
@[simp] theorem tg_shift_clamp : (("shift" : Str) = "clamp") = False := eq_false (by decide +kernel)
theorem info_ap {q : Dst} {rest : List Cell} {k : Str} : ∃ (o : Op) (q' : Dst), f__law_point_info [.ref 1, .str k] (dh q rest) = .ok o.d (dh q' rest) := by
  by_cases h1 : k = "clamp"
  · obtain ⟨r, q1, t1, _, _⟩ := signed_ap (q := q) (rest := rest) (m := 9) (by omega) (by omega)
    obtain ⟨r2, q2, ea, ea', a0, a1⟩ := draw q1 12 (by omega) (by omega)
    refine ⟨⟨.tup [.int r, .int (r + r2)], rfl⟩, q2, ?_⟩
    unfold f__law_point_info s__law_point_info
    simp [h1, t1, ea, ea']
  · by_cases h2 : k = "shift"
    · obtain ⟨r2, q2, ea, ea', a0, a1⟩ := draw q 3 (by omega) (by omega)
      refine ⟨⟨.tup [.int (1 + r2)], rfl⟩, q2, ?_⟩
      unfold f__law_point_info s__law_point_info
      simp [h1, h2, ea, ea']
    · refine ⟨⟨.tup [], rfl⟩, q, ?_⟩
      unfold f__law_point_info s__law_point_info
      simp [h1, h2]
/-! ### drawn expressions -/
def BufOk (rest : List Cell) (bv : D) (bs : Bf) : Prop := (∃ B : Nat, bv = .ref (B + 2) ∧ rest[B]? = some (.lst (bD bs))) ∨ bv = .tup (bD bs)
structure BufP (bs : Bf) : Prop where
  l0 : 2 ≤ bs.length
  l1 : bs.length ≤ 10
  sz : ∀ b ∈ bs, 1 ≤ b.2 ∧ b.2 ≤ 5
  b0 : ∃ z : Int, bs[0]? = some (("in" : Str), z)
  b1 : ∃ z : Int, bs[1]? = some (("main" : Str), z)
section
variable {rest g : List Cell} {bv env : D} {bs : Bf}
theorem BufOk.app (h : BufOk rest bv bs) : BufOk (rest ++ g) bv bs := by
  rcases h with ⟨B, e, a⟩ | e
  · exact .inl ⟨B, e, by rw [List.getElem?_append_left (List.getElem?_eq_some_iff.mp a).1]; exact a⟩
  · exact .inr e
theorem BufOk.len (h : BufOk rest bv bs) (q : Dst) : lenF bv (dh q rest) = .ok (.int (bs.length : Int)) (dh q rest) := by
  rcases h with ⟨B, rfl, a⟩ | rfl
  · rw [lenF_refO, dh_cs, a]
    show Res.ok (D.int (((bD bs).length : Nat) : Int)) _ = _
    rw [bD_len]
  · rw [lenF_tup, bD_len]
theorem BufOk.at_ (h : BufOk rest bv bs) (q : Dst) {i : Nat} {b : Str × Int} (hb : bs[i]? = some b) : ixF bv (.int (i : Int)) (dh q rest) = .ok (.tup [.str b.1, .int b.2]) (dh q rest) := by
  have ba := bs_at hb
  rcases h with ⟨B, rfl, a⟩ | rfl
  · rw [ixF_refO, dh_cs, a]
    show okO (L2.atI (bD bs) (i : Int)) _ = _
    rw [ba]; rfl
  · rw [ixF_tupO, ba]; rfl
/-- a drawn buffer -/
theorem buf_draw (hb : BufOk rest bv bs) (hp : BufP bs) (q : Dst) : ∃ (i : Nat) (b : Str × Int) (q' : Dst), takeV q (bs.length : Int) = (i : Int) ∧ takeQ q (bs.length : Int) = q' ∧ bs[i]? = some b ∧ 1 ≤ b.2 ∧ b.2 ≤ 5 ∧ (∀ q, ixF bv (.int (i : Int)) (dh q rest) = .ok (.tup [.str b.1, .int b.2]) (dh q rest)) := by
  have l0 := hp.l0
  have l1 := hp.l1
  obtain ⟨r, q1, ea, ea', a0, a1⟩ := draw q (bs.length : Int) (by omega) (by omega)
  obtain ⟨i, rfl⟩ := Int.eq_ofNat_of_zero_le a0
  have hi : i < bs.length := by omega
  have e := List.getElem?_eq_getElem hi
  obtain ⟨s1, s2⟩ := hp.sz _ (List.getElem_mem hi)
  exact ⟨i, _, q1, ea, ea', e, s1, s2, fun q => hb.at_ q e⟩
end
theorem pick12 {r : Int} (h0 : 0 ≤ r) (h1 : r < 12) : ∃ (k : Str) (b1 b2 : Bool), (∀ h, ixF (.tup [.str "add", .str "sub", .str "mul", .str "max", .str "min", .str "less", .str "equal", .str "neg", .str "clamp", .str "shift", .str "where", .str "add"]) (.int r) h = .ok (.str k) h) ∧ (∀ h, inF (.str k) (.tup [.str "neg", .str "clamp", .str "shift"]) h = .ok (.bl b1) h) ∧ decide (k = "where") = b2 := by
  have ip : ∀ (k : Str) h, inF (.str k) (.tup [.str "neg", .str "clamp", .str "shift"]) h = .ok (.bl (([.str "neg", .str "clamp", .str "shift"] : List D).any fun d => eqFl d (.str k))) h := fun k h => by
    show (match inB (.str k) (.tup [.str "neg", .str "clamp", .str "shift"]) h with | some b => Res.ok (D.bl b) h | none => .stuck) = _
    rfl
  rcases (show r = 0 ∨ r = 1 ∨ r = 2 ∨ r = 3 ∨ r = 4 ∨ r = 5 ∨ r = 6 ∨ r = 7 ∨ r = 8 ∨ r = 9 ∨ r = 10 ∨ r = 11 by omega) with rfl | rfl | rfl | rfl | rfl | rfl | rfl | rfl | rfl | rfl | rfl | rfl
  all_goals exact ⟨_, _, _, fun h => rfl, ip _, rfl⟩
theorem pick3b {r : Int} (h0 : 0 ≤ r) (h1 : r < 3) : ∃ f : Int, 0 ≤ f ∧ f ≤ 2 ∧ ∀ h, ixF (.tup [.int 1, .int 0, .int 2]) (.int r) h = .ok (.int f) h := by
  rcases (show r = 0 ∨ r = 1 ∨ r = 2 by omega) with rfl | rfl | rfl
  · exact ⟨1, by omega, by omega, fun h => rfl⟩
  · exact ⟨0, by omega, by omega, fun h => rfl⟩
  · exact ⟨2, by omega, by omega, fun h => rfl⟩
theorem len2 {α : Type} {l : List α} (h : l.length = 2) : ∃ a b, l = [a, b] := by
  match l, h with
  | [a, b], _ => exact ⟨a, b, rfl⟩
theorem len3 {α : Type} {l : List α} (h : l.length = 3) : ∃ a b c, l = [a, b, c] := by
  match l, h with
  | [a, b, c], _ => exact ⟨a, b, c, rfl⟩
section
variable {rest : List Cell} {bv env : D} {bs : Bf}
def ExG (r : Fn) (rest : List Cell) (bv env : D) (lv : Int) (n : Nat) : Prop := ∀ q : Dst, ∃ (e : Ex) (q' : Dst), (dpt e ≤ n ∧ (exs e).length ≤ 4 ^ n) ∧ r [.ref 1, bv, env, .int lv] (dh q rest) = .ok (encE e) (dh q' rest)
theorem ex_menu (r : Fn) (q1 : Dst) {m : Int} (n : Nat) (hm0 : 0 ≤ m) (hm : m < 5) (he : EnvOk rest env) (hb : BufOk rest bv bs) (hp : BufP bs) (lv : Int) (q : Dst) (hd : (∀ h : PH, True) ∧ (if lv < 3 then takeV q 9 else takeV q 4) = m ∧ (if lv < 3 then takeQ q 9 else takeQ q 4) = q1) : ∃ (e : Ex) (q' : Dst), (dpt e ≤ n ∧ (exs e).length ≤ 4 ^ n) ∧ runF (s__law_expr r) 4 15 [.ref 1, bv, env, .int lv] (dh q rest) = .ok (encE e) (dh q' rest) := by
  obtain ⟨_, d1, d2⟩ := hd
  have p4 : 1 ≤ 4 ^ n := Nat.one_le_pow _ _ (by omega)
  rcases (show m = 0 ∨ m = 1 ∨ (m = 2 ∨ m = 3 ∨ m = 4) by omega) with e0 | e0 | e0
  · obtain ⟨v, q2, t, _, _⟩ := signed_ap (q := q1) (rest := rest) (m := 9) (by omega) (by omega)
    refine ⟨.num ⟨.int v, rfl⟩, q2, ⟨Nat.zero_le _, p4⟩, ?_⟩
    unfold s__law_expr encE
    split at d1
    · rename_i z; rw [if_pos z] at d2; simp [z, d1, d2, e0, t]
    · rename_i z; rw [if_neg z] at d2; simp [z, d1, d2, e0, t]
  · obtain ⟨o, q2, t⟩ := test_ap (q := q1) he
    refine ⟨.idx o, q2, ⟨Nat.zero_le _, p4⟩, ?_⟩
    have oh := o.h
    unfold s__law_expr encE
    split at d1
    · rename_i z; rw [if_pos z] at d2; simp [z, d1, d2, e0, t, oh]
    · rename_i z; rw [if_neg z] at d2; simp [z, d1, d2, e0, t, oh]
  · have m0 : ¬ m = 0 := by omega
    have m1 : ¬ m = 1 := by omega
    obtain ⟨i, b, q2, ea, ea', b0, s1, s2, ix⟩ := buf_draw hb hp q1
    obtain ⟨o, q3, t⟩ := form_ap (q := q2) (size := b.2) he (by omega) (by omega)
    have ln := hb.len q1
    have l0 := hp.l0
    have lp : 0 < (bs.length : Int) := by omega
    have ls : sm (bs.length : Int) := sm_lt (by omega) (by have := hp.l1; omega)
    refine ⟨.load i o, q3, ⟨Nat.zero_le _, p4⟩, ?_⟩
    have oh := o.h
    generalize (bs.length : Int) = BL at *
    unfold s__law_expr encE
    split at d1
    · rename_i z; rw [if_pos z] at d2; simp [z, d1, d2, m0, m1, hm, t, oh, ln, lp, ls, ea, ea', ix]
    · rename_i z; rw [if_neg z] at d2; simp [z, d1, d2, m0, m1, hm, t, oh, ln, lp, ls, ea, ea', ix]
theorem ex_guard {r : Fn} {q1 : Dst} {n : Nat} (he : EnvOk rest env) (hb : BufOk rest bv bs) (hp : BufP bs) {lv : Int} (q : Dst) (z : lv < 3) (d1 : takeV q 9 = 5) (d2 : takeQ q 9 = q1) (hr : ExG r rest bv env (lv + 1) n) : ∃ (e : Ex) (q' : Dst), (dpt e ≤ n + 1 ∧ (exs e).length ≤ 4 ^ (n + 1)) ∧ runF (s__law_expr r) 4 15 [.ref 1, bv, env, .int lv] (dh q rest) = .ok (encE e) (dh q' rest) := by
  have p4 : 1 ≤ 4 ^ n := Nat.one_le_pow _ _ (by omega)
  have p5 : 4 ^ (n + 1) = 4 ^ n * 4 := rfl
  obtain ⟨i, b, q2, ea, ea', b0, s1, s2, ix⟩ := buf_draw hb hp q1
  have ln := hb.len q1
  have ix2 : ∀ h, ixF (D.tup [.str b.1, .int b.2]) (.int 1) h = .ok (.int b.2) h := fun _ => rfl
  have lp : 0 < (bs.length : Int) := by have := hp.l0; omega
  have ls : sm (bs.length : Int) := sm_lt (by omega) (by have := hp.l1; omega)
  obtain ⟨o, q3, t⟩ := test_ap (q := q2) he
  obtain ⟨x, q4, ⟨x1, x2⟩, hx⟩ := hr q3
  obtain ⟨y, q5, ⟨y1, y2⟩, hy⟩ := hr q4
  refine ⟨.guard o x y, q5, ⟨by show max (dpt x) (dpt y) + 1 ≤ _; omega, by show (exs x ++ exs y).length + 1 ≤ _; rw [List.length_append]; omega⟩, ?_⟩
  have oh := o.h
  have xh := encE_mr x
  have yh := encE_mr y
  show _ = Res.ok (D.tup [.str "guard", o.d, encE x, encE y]) _
  generalize encE x = EX at *
  generalize encE y = EY at *
  generalize (bs.length : Int) = BL at *
  unfold s__law_expr
  simp [z, d1, d2, ln, lp, ls, ea, ea', ix, ix2, t, hx, hy, oh, xh, yh]
theorem ex_pick {r : Fn} {q1 : Dst} {n : Nat} (he : EnvOk rest env) (hb : BufOk rest bv bs) (hp : BufP bs) {lv : Int} (q : Dst) (z : lv < 3) (d1 : takeV q 9 = 6) (d2 : takeQ q 9 = q1) (hr : ExG r rest bv env (lv + 1) n) : ∃ (e : Ex) (q' : Dst), (dpt e ≤ n + 1 ∧ (exs e).length ≤ 4 ^ (n + 1)) ∧ runF (s__law_expr r) 4 15 [.ref 1, bv, env, .int lv] (dh q rest) = .ok (encE e) (dh q' rest) := by
  have p4 : 1 ≤ 4 ^ n := Nat.one_le_pow _ _ (by omega)
  have p5 : 4 ^ (n + 1) = 4 ^ n * 4 := rfl
  obtain ⟨i, b, q2, ea, ea', b0, s1, s2, ix⟩ := buf_draw hb hp q1
  have ln := hb.len q1
  have ix2 : ∀ h, ixF (D.tup [.str b.1, .int b.2]) (.int 1) h = .ok (.int b.2) h := fun _ => rfl
  have lp : 0 < (bs.length : Int) := by have := hp.l0; omega
  have ls : sm (bs.length : Int) := sm_lt (by omega) (by have := hp.l1; omega)
  obtain ⟨M, hM, M0, M1⟩ : ∃ M : Int, (if b.2 < 4 then b.2 else 4) = M ∧ 0 < M ∧ M ≤ b.2 := ⟨_, rfl, by split <;> omega, by split <;> omega⟩
  have sM : sm M := sm_lt (by omega) (by omega)
  obtain ⟨c, q3, ec, ec', c0, c1⟩ := draw q2 M M0 (by omega)
  have sc : sm (1 + c - 1) := sm_lt (by omega) (by omega)
  have s2' : sm (2 : Int) := sm_lt (by omega) (by omega)
  by_cases cc : 2 * (1 + c - 1) < b.2
  · obtain ⟨f, q4, ef, ef', f0, f1⟩ := draw q3 3 (by omega) (by omega)
    obtain ⟨st, st0, st1, sx⟩ := pick3b f0 f1
    have hst : st = 0 ∨ st = 1 ∨ st = 2 := by omega
    obtain ⟨o, q5, t⟩ := form_ap (q := q4) (size := b.2 - st * (1 + c - 1)) he (by rcases hst with rfl | rfl | rfl <;> omega) (by rcases hst with rfl | rfl | rfl <;> omega)
    have ss : sm st := sm_lt (by omega) (by omega)
    obtain ⟨x, q6, ⟨x1, x2⟩, hx⟩ := hr q5
    refine ⟨.pick i o ⟨.int st, rfl⟩ ⟨.int (1 + c), rfl⟩ x, q6, ⟨by show dpt x + 1 ≤ _; omega, by show (exs x).length + 1 ≤ _; omega⟩, ?_⟩
    have oh := o.h
    have xh := encE_mr x
    show _ = Res.ok (D.tup [.str "pick", .int (i : Int), o.d, .int st, .int (1 + c), encE x]) _
    generalize encE x = EX at *
    generalize (bs.length : Int) = BL at *
    generalize hC : 1 + c = C1 at *
    generalize b.2 = B2 at *
    unfold s__law_expr
    simp [z, d1, d2, ln, lp, ls, ea, ea', ix, ix2, hM, M0, sM, ec, ec', hC, sc, s2', cc, ef, ef', sx, t, ss, hx, oh, xh, -ixF_tupO]
  · obtain ⟨o, q5, t⟩ := form_ap (q := q3) (size := b.2 - 1 * (1 + c - 1)) he (by omega) (by omega)
    have s1' : sm (1 : Int) := sm_lt (by omega) (by omega)
    obtain ⟨x, q6, ⟨x1, x2⟩, hx⟩ := hr q5
    refine ⟨.pick i o ⟨.int 1, rfl⟩ ⟨.int (1 + c), rfl⟩ x, q6, ⟨by show dpt x + 1 ≤ _; omega, by show (exs x).length + 1 ≤ _; omega⟩, ?_⟩
    have oh := o.h
    have xh := encE_mr x
    show _ = Res.ok (D.tup [.str "pick", .int (i : Int), o.d, .int 1, .int (1 + c), encE x]) _
    generalize encE x = EX at *
    generalize (bs.length : Int) = BL at *
    generalize hC : 1 + c = C1 at *
    rw [Int.one_mul] at t
    generalize b.2 = B2 at *
    unfold s__law_expr
    simp [z, d1, d2, ln, lp, ls, ea, ea', ix, ix2, hM, M0, sM, ec, ec', hC, sc, s2', cc, t, s1', hx, oh, xh, -ixF_tupO]
theorem ex_apply {r : Fn} {q1 : Dst} {n : Nat} {m : Int} (he : EnvOk rest env) (hb : BufOk rest bv bs) (hp : BufP bs) {lv : Int} (q : Dst) (z : lv < 3) (d1 : takeV q 9 = m) (d2 : takeQ q 9 = q1) (hm : 7 ≤ m) (hr : ExG r rest bv env (lv + 1) n) : ∃ (e : Ex) (q' : Dst), (dpt e ≤ n + 1 ∧ (exs e).length ≤ 4 ^ (n + 1)) ∧ runF (s__law_expr r) 4 15 [.ref 1, bv, env, .int lv] (dh q rest) = .ok (encE e) (dh q' rest) := by
  have p4 : 1 ≤ 4 ^ n := Nat.one_le_pow _ _ (by omega)
  have p5 : 4 ^ (n + 1) = 4 ^ n * 4 := rfl
  have n0 : ¬ m = 0 := by omega
  have n1 : ¬ m = 1 := by omega
  have n2 : ¬ m < 5 := by omega
  have n3 : ¬ m = 5 := by omega
  have n4 : ¬ m = 6 := by omega
  obtain ⟨i, b, q2, ea, ea', b0, s1, s2, ix⟩ := buf_draw hb hp q1
  have ln := hb.len q1
  have ix2 : ∀ h, ixF (D.tup [.str b.1, .int b.2]) (.int 1) h = .ok (.int b.2) h := fun _ => rfl
  have lp : 0 < (bs.length : Int) := by have := hp.l0; omega
  have ls : sm (bs.length : Int) := sm_lt (by omega) (by have := hp.l1; omega)
  obtain ⟨c, q3, ec, ec', c0, c1⟩ := draw q2 12 (by omega) (by omega)
  obtain ⟨k, b1, b2, kx, ki, kw⟩ := pick12 c0 c1
  obtain ⟨M, hM, hMe⟩ : ∃ M : Nat, (1 ≤ M ∧ M ≤ 3) ∧ ∀ (h : PH), (if b1 = true then D.int 1 else if b2 = true then D.int 3 else D.int 2) = D.int (M : Int) := by
    cases b1
    · cases b2
      · exact ⟨2, by omega, fun h => rfl⟩
      · exact ⟨3, by omega, fun h => rfl⟩
    · exact ⟨1, by omega, fun h => rfl⟩
  obtain ⟨as, q4, k1, k2, k3⟩ := comp_dr (α := Ex) (enc := encE) (P := fun e => dpt e ≤ n ∧ (exs e).length ≤ 4 ^ n) (rest := rest) (t := .one 14) (elt := e__law_expr_0 r) (e0 := [some (.ref 1), some bv, some env, some (.int lv), some (.int m), some (.int (i : Int)), some (.int b.2), none, none, none, some (.tup [.str "add", .str "sub", .str "mul", .str "max", .str "min", .str "less", .str "equal", .str "neg", .str "clamp", .str "shift", .str "where", .str "add"]), some (.str k), some (.int (M : Int)), none, none]) (rangeD 0 1 M) (fun q d hd => by
    obtain ⟨x, q6, hxx, hx⟩ := hr q
    refine ⟨_, x, q6, tgt_one, hxx, ?_⟩
    unfold e__law_expr_0
    simp [hx]) q3
  rw [rangeD_len] at k1
  obtain ⟨o, q5, t⟩ := info_ap (q := q4) (rest := rest ++ [.lst (as.map encE)]) (k := k)
  have ra : ∀ h, rangeF1 [.int (M : Int)] h = .ok (.vals (rangeD 0 1 M)) h := fun h => by rw [range1 (in62_lit (by omega) (by omega)), Int.toNat_natCast]
  have tu : tupleF (.ref (rest.length + 2)) (dh q4 (rest ++ [.lst (as.map encE)])) = .ok (.tup (as.map encE)) (dh q4 (rest ++ [.lst (as.map encE)])) := tupleF_ref (by
    show (rest ++ [Cell.lst (as.map encE)])[rest.length]? = _
    rw [List.getElem?_append_right (Nat.le_refl _), Nat.sub_self]; rfl)
  have cu : (dh q5 (rest ++ [.lst (as.map encE)])).cut (rest.length + 2) = dh q5 rest := by
    rw [dh_cut, List.take_append_of_le_length (Nat.le_refl _), List.take_length]
  have lm : (dh q5 (rest ++ [.lst (as.map encE)])).lim = 0 := rfl
  have le : (as.map encE).length ≤ 16777216 := by rw [List.length_map]; omega
  have pu : (dh q4 rest).push (.lst (as.map encE)) = dh q4 (rest ++ [.lst (as.map encE)]) := dh_push
  have am : mrL (as.map encE) = 0 := eD_mr (es := as)
  have oh := o.h
  have run : runF (s__law_expr r) 4 15 [.ref 1, bv, env, .int lv] (dh q rest) = .ok (.tup [.str "apply", .str k, .tup (as.map encE), o.d]) (dh q5 rest) := by
    generalize (bs.length : Int) = BL at *
    generalize as.map encE = AE at *
    generalize dh q5 (rest ++ [.lst AE]) = H5 at *
    generalize hH4 : dh q4 (rest ++ [.lst AE]) = H4 at *
    generalize rangeD 0 1 M = RD at *
    generalize b.2 = B2 at *
    unfold s__law_expr
    cases b1
    · cases b2
      · have hMe : D.int 2 = D.int (M : Int) := hMe ⟨[], 0⟩
        injection hMe with hMe
        rw [← hMe] at ra k3
        simp [z, d1, d2, n0, n1, n2, n3, n4, ln, lp, ls, ea, ea', ix, ix2, ec, ec', kx, ki, kw, ra, k3, le, hH4, tu, t, am, oh, cu, lm, -ixF_tupO, -range1, -tupleF_refO]
      · have hMe : D.int 3 = D.int (M : Int) := hMe ⟨[], 0⟩
        injection hMe with hMe
        rw [← hMe] at ra k3
        simp [z, d1, d2, n0, n1, n2, n3, n4, ln, lp, ls, ea, ea', ix, ix2, ec, ec', kx, ki, kw, ra, k3, le, hH4, tu, t, am, oh, cu, lm, -ixF_tupO, -range1, -tupleF_refO]
    · have hMe : D.int 1 = D.int (M : Int) := hMe ⟨[], 0⟩
      injection hMe with hMe
      rw [← hMe] at ra k3
      simp [z, d1, d2, n0, n1, n2, n3, n4, ln, lp, ls, ea, ea', ix, ix2, ec, ec', kx, ki, kw, ra, k3, le, hH4, tu, t, am, oh, cu, lm, -ixF_tupO, -range1, -tupleF_refO]
  rcases (show M = 1 ∨ M = 2 ∨ M = 3 by omega) with e | e | e
  · subst e
    obtain ⟨a, rfl⟩ := List.length_eq_one_iff.mp k1
    have h1 := k2 a (by simp)
    exact ⟨.app1 ⟨.str k, rfl⟩ o a, q5, ⟨by show dpt a + 1 ≤ _; omega, by show (exs a).length + 1 ≤ _; omega⟩, run⟩
  · subst e
    obtain ⟨a, b, rfl⟩ := len2 k1
    have h1 := k2 a (by simp)
    have h2 := k2 b (by simp)
    exact ⟨.app2 ⟨.str k, rfl⟩ o a b, q5, ⟨by show max (dpt a) (dpt b) + 1 ≤ _; omega, by show (exs a ++ exs b).length + 1 ≤ _; rw [List.length_append]; omega⟩, run⟩
  · subst e
    obtain ⟨a, b, c, rfl⟩ := len3 k1
    have h1 := k2 a (by simp)
    have h2 := k2 b (by simp)
    have h3 := k2 c (by simp)
    exact ⟨.app3 ⟨.str k, rfl⟩ o a b c, q5, ⟨by show max (dpt a) (max (dpt b) (dpt c)) + 1 ≤ _; omega, by show (exs a ++ (exs b ++ exs c)).length + 1 ≤ _; rw [List.length_append, List.length_append]; omega⟩, run⟩
theorem expr_ap (he : EnvOk rest env) (hb : BufOk rest bv bs) (hp : BufP bs) : ∀ (n k : Nat) (lv : Int), n ≤ k → 3 - lv ≤ n → ExG (f__law_expr (k + 1)) rest bv env lv n := by
  intro n
  induction n with
  | zero =>
    intro k lv _ hl q
    obtain ⟨r, q1, ea, ea', a0, a1⟩ := draw q 4 (by omega) (by omega)
    exact ex_menu (f__law_expr k) q1 0 a0 (by omega) he hb hp lv q ⟨fun _ => trivial, by rw [if_neg (by omega)]; exact ea, by rw [if_neg (by omega)]; exact ea'⟩
  | succ n ih =>
    intro k lv hk hl q
    obtain ⟨k, rfl⟩ : ∃ j, k = j + 1 := ⟨k - 1, by omega⟩
    by_cases z : lv < 3
    · obtain ⟨r, q1, ea, ea', a0, a1⟩ := draw q 9 (by omega) (by omega)
      have hr := ih k (lv + 1) (by omega) (by omega)
      by_cases r5 : r < 5
      · exact ex_menu (f__law_expr (k + 1)) q1 (n + 1) a0 r5 he hb hp lv q ⟨fun _ => trivial, by rw [if_pos z]; exact ea, by rw [if_pos z]; exact ea'⟩
      · rcases (show r = 5 ∨ r = 6 ∨ 7 ≤ r by omega) with e | e | e
        · subst e; exact ex_guard he hb hp q z ea ea' hr
        · subst e; exact ex_pick he hb hp q z ea ea' hr
        · exact ex_apply he hb hp q z ea ea' e hr
    · obtain ⟨r, q1, ea, ea', a0, a1⟩ := draw q 4 (by omega) (by omega)
      exact ex_menu (f__law_expr (k + 1)) q1 (n + 1) a0 (by omega) he hb hp lv q ⟨fun _ => trivial, by rw [if_neg z]; exact ea, by rw [if_neg z]; exact ea'⟩
end
/-! ### lists of chosen buffers -/
def pAt (bs : Bf) (p : Str → Bool) (k : Int) : Bool := match bs[k.toNat]? with
  | some b => p b.1
  | none => false
def idx (bs : Bf) (p : Str → Bool) : List Int := (rangeI bs.length).filter (pAt bs p)
def pAtD (bs : Bf) (p : Str → Bool) : D → Bool
  | .int k => pAt bs p k
  | _ => false
theorem idx_filter {bs : Bf} {p : Str → Bool} : ((iD (rangeI bs.length)).filter (pAtD bs p)).map id = iD (idx bs p) := by
  unfold idx
  generalize rangeI bs.length = xs
  induction xs with
  | nil => rfl
  | cons x r ih =>
    show ((D.int x :: iD r).filter _).map id = _
    cases q : pAt bs p x with
    | true =>
      have q2 : pAtD bs p (.int x) = true := q
      rw [List.filter_cons_of_pos q, List.filter_cons_of_pos q2, List.map_cons, ih]; rfl
    | false =>
      have q2 : ¬ pAtD bs p (.int x) = true := by show ¬ pAt bs p x = true; rw [q]; simp
      rw [List.filter_cons_of_neg q2, List.filter_cons_of_neg (by simp [q]), ih]
theorem idx_len {bs : Bf} {p : Str → Bool} : (idx bs p).length ≤ bs.length := by
  have := List.length_filter_le (pAt bs p) (rangeI bs.length)
  unfold idx
  have e : (rangeI bs.length).length = bs.length := by unfold rangeI; simp
  omega
theorem idx_mem {bs : Bf} {p : Str → Bool} {x : Int} (h : x ∈ idx bs p) : ∃ (i : Nat) (b : Str × Int), x = (i : Int) ∧ bs[i]? = some b ∧ p b.1 = true := by
  obtain ⟨h1, h2⟩ := List.mem_filter.mp h
  obtain ⟨i, hi, rfl⟩ := List.mem_map.mp h1
  have hi := List.mem_range.mp hi
  have e := List.getElem?_eq_getElem hi
  refine ⟨i, _, rfl, e, ?_⟩
  unfold pAt at h2
  rw [Int.toNat_natCast, e] at h2
  exact h2
theorem idx_pos {bs : Bf} {p : Str → Bool} {i : Nat} {b : Str × Int} (hb : bs[i]? = some b) (hp : p b.1 = true) : 0 < (idx bs p).length := by
  refine List.length_pos_of_mem (a := (i : Int)) (List.mem_filter.mpr ⟨List.mem_map.mpr ⟨i, List.mem_range.mpr (List.getElem?_eq_some_iff.mp hb).1, rfl⟩, ?_⟩)
  unfold pAt
  rw [Int.toNat_natCast, hb]
  exact hp
theorem idx_comp {rest : List Cell} {bv : D} {bs : Bf} {p : Str → Bool} {q : Dst} {t : Tgt} {tst : TM} {elt : EM} {e0 : Dy.Env} (hb : BufOk rest bv bs) (H : ∀ (i : Nat) (b : Str × Int), (∀ q, ixF bv (.int (i : Int)) (dh q rest) = .ok (.tup [.str b.1, .int b.2]) (dh q rest)) → ∃ e1, tgt t (.int (i : Int)) e0 (dh q rest) = some e1 ∧ tst e1 (dh q rest) = .ok (p b.1) (dh q rest) ∧ elt e1 (dh q rest) = .ok (.int (i : Int)) (dh q rest)) :
    compV t tst elt e0 (iD (rangeI bs.length)) (dh q rest) = .ok (iD (idx bs p)) (dh q rest) := by
  rw [← idx_filter]
  refine compV_map (fun d hd => ?_)
  obtain ⟨x, hx, rfl⟩ := List.mem_map.mp hd
  obtain ⟨i, hi, rfl⟩ := List.mem_map.mp hx
  have hi := List.mem_range.mp hi
  have e := List.getElem?_eq_getElem hi
  obtain ⟨e1, h1, h2, h3⟩ := H i _ (fun q => hb.at_ q e)
  refine ⟨e1, h1, ?_, fun _ => h3⟩
  rw [h2]
  show Res.ok _ _ = Res.ok (pAt bs p (i : Int)) _
  unfold pAt
  rw [Int.toNat_natCast, e]
/-- a drawn member of a list of ints -/
theorem mem_draw {xs : List Int} (h0 : 0 < xs.length) (h1 : xs.length ≤ 1000) (q : Dst) : ∃ (j : Int) (x : Int) (q' : Dst), takeV q (xs.length : Int) = j ∧ takeQ q (xs.length : Int) = q' ∧ x ∈ xs ∧ L2.atI (iD xs) j = some (.int x) := by
  obtain ⟨r, q1, ea, ea', a0, a1⟩ := draw q (xs.length : Int) (by omega) (by omega)
  obtain ⟨i, rfl⟩ := Int.eq_ofNat_of_zero_le a0
  have hi : i < xs.length := by omega
  refine ⟨i, xs[i], q1, ea, ea', List.getElem_mem hi, ?_⟩
  rw [Dy.atI_nat]
  unfold iD
  rw [List.getElem?_map, List.getElem?_eq_getElem hi]; rfl
/-! ### drawn statements -/
def pNear (s : Str) : Bool := decide (s = "near")
def pOther (s : Str) : Bool := !decide (s = "near")
def pSets (s : Str) : Bool := !decide (s = "in")
theorem other_in : pOther ("in" : Str) = true := by decide +kernel
theorem sets_main : pSets ("main" : Str) = true := by decide +kernel
section
variable {rest : List Cell} {bv env : D} {bs : Bf}
theorem range_len (hp : BufP bs) (h : PH) : rangeF1 [.int (bs.length : Int)] h = .ok (.vals (iD (rangeI bs.length))) h := by
  have := hp.l1
  rw [range1 (in62_lit (by omega) (by omega)), Int.toNat_natCast, rangeD_I]
theorem copy_ap (he : EnvOk rest env) (hb : BufOk rest bv bs) (hp : BufP bs) (q : Dst) : ∃ q', f__law_copy [.ref 1, bv, env] (dh q rest) = .ok .non (dh q' rest) ∨ ∃ (a b : Nat) (f g c : Op), f__law_copy [.ref 1, bv, env] (dh q rest) = .ok (encS (.copy a b f g c)) (dh q' rest) := by
  have c1 := idx_comp (p := pNear) (q := q) (t := .one 10) (tst := t__law_copy_1) (elt := e__law_copy_1) (e0 := [some (.ref 1), some bv, some env, none, none, none, none, none, none, none, none]) hb (fun i b ix => by
    refine ⟨_, tgt_one, ?_, ?_⟩
    · unfold t__law_copy_1 pNear
      simp [ix]
    · unfold e__law_copy_1
      simp)
  have c2 := idx_comp (p := pOther) (q := q) (t := .one 10) (tst := t__law_copy_0) (elt := e__law_copy_0) (e0 := [some (.ref 1), some bv, some env, some (.ref (rest.length + 2)), none, none, none, none, none, none, none]) (rest := rest ++ [.lst (iD (idx bs pNear))]) hb.app (fun i b ix => by
    refine ⟨_, tgt_one, ?_, ?_⟩
    · unfold t__law_copy_0 pOther
      simp [ix]
    · unfold e__law_copy_0
      simp)
  have ln1 := hb.len q
  have ln2 := (hb.app (g := [.lst (iD (idx bs pNear))])).len q
  have i1 := idx_len (bs := bs) (p := pNear)
  have i2 := idx_len (bs := bs) (p := pOther)
  have l1 := hp.l1
  have le1 : (iD (idx bs pNear)).length ≤ 16777216 := by rw [iD_len]; omega
  have le2 : (iD (idx bs pOther)).length ≤ 16777216 := by rw [iD_len]; omega
  have ra := range_len hp
  obtain ⟨R, hR⟩ : ∃ R, R = rest ++ [Cell.lst (iD (idx bs pNear))] ++ [Cell.lst (iD (idx bs pOther))] := ⟨_, rfl⟩
  have heR : EnvOk R env := by rw [hR]; exact he.app.app
  have hbR : BufOk R bv bs := by rw [hR]; exact hb.app.app
  have lnN : ∀ q, (dh q R).at (rest.length + 2) = some (.lst (iD (idx bs pNear))) := fun q => by
    rw [dh_cs, hR, List.append_assoc, List.getElem?_append_right (Nat.le_refl _), Nat.sub_self]; rfl
  have lnO : ∀ q, (dh q R).at (rest.length + 1 + 2) = some (.lst (iD (idx bs pOther))) := fun q => by
    rw [dh_cs, hR, List.getElem?_append_right (by simp), List.length_append]
    simp
  have lenN : ∀ q, lenF (.ref (rest.length + 2)) (dh q R) = .ok (.int ((idx bs pNear).length : Int)) (dh q R) := fun q => by
    rw [lenF_refO, lnN]
    show Res.ok (D.int (((iD (idx bs pNear)).length : Nat) : Int)) _ = _
    rw [iD_len]
  have lenO : ∀ q, lenF (.ref (rest.length + 1 + 2)) (dh q R) = .ok (.int ((idx bs pOther).length : Int)) (dh q R) := fun q => by
    rw [lenF_refO, lnO]
    show Res.ok (D.int (((iD (idx bs pOther)).length : Nat) : Int)) _ = _
    rw [iD_len]
  have cu : ∀ q, (dh q R).cut (rest.length + 2) = dh q rest := fun q => by
    rw [dh_cut, hR, List.append_assoc, List.take_append_of_le_length (Nat.le_refl _), List.take_length]
  have lm : ∀ q, (dh q R).lim = 0 := fun q => rfl
  have pu1 : dh q (rest ++ [Cell.lst (iD (idx bs pNear)), Cell.lst (iD (idx bs pOther))]) = dh q R := by rw [hR, List.append_assoc]; rfl
  have l2 : (rest ++ [Cell.lst (iD (idx bs pNear))]).length + 2 = rest.length + 1 + 2 := by rw [List.length_append]; rfl
  by_cases z : (idx bs pNear).length = 0
  · refine ⟨q, .inl ?_⟩
    have z2 : ((idx bs pNear).length : Int) = 0 := by omega
    rw [z2] at lenN
    generalize hN : iD (idx bs pNear) = ND at *
    generalize hO : iD (idx bs pOther) = OD at *
    generalize iD (rangeI bs.length) = RD at *
    generalize (bs.length : Int) = BL at *
    unfold f__law_copy s__law_copy
    simp [ln1, ra, c1, le1, ln2, c2, le2, pu1, -range1, lenN, cu, lm, -lenF_refO]
  · obtain ⟨j1, x1, q1, t1, t1', m1, a1⟩ := mem_draw (xs := idx bs pNear) (by omega) (by omega) q
    obtain ⟨z0, hz0⟩ := hp.b0
    have pos2 := idx_pos (p := pOther) hz0 other_in
    obtain ⟨j2, x2, q2, t2, t2', m2, a2⟩ := mem_draw (xs := idx bs pOther) pos2 (by omega) q1
    obtain ⟨n1, b1, rfl, hb1, _⟩ := idx_mem m1
    obtain ⟨n2, b2, rfl, hb2, _⟩ := idx_mem m2
    have s1 := hp.sz b1 (List.mem_of_getElem? hb1)
    have s2 := hp.sz b2 (List.mem_of_getElem? hb2)
    have ix1 := fun q => hbR.at_ q hb1
    have ix2 := fun q => hbR.at_ q hb2
    have k1 : 0 < ((idx bs pNear).length : Int) := by omega
    have k2 : 0 < ((idx bs pOther).length : Int) := by omega
    have sm1 : sm ((idx bs pNear).length : Int) := sm_lt (by omega) (by omega)
    have sm2 : sm ((idx bs pOther).length : Int) := sm_lt (by omega) (by omega)
    have y1 : ∀ q, ixF (.ref (rest.length + 2)) (.int j1) (dh q R) = .ok (.int (n1 : Int)) (dh q R) := fun q => by
      rw [ixF_refO, lnN]
      show okO (L2.atI (iD (idx bs pNear)) j1) _ = _
      rw [a1]; rfl
    have y2 : ∀ q, ixF (.ref (rest.length + 1 + 2)) (.int j2) (dh q R) = .ok (.int (n2 : Int)) (dh q R) := fun q => by
      rw [ixF_refO, lnO]
      show okO (L2.atI (iD (idx bs pOther)) j2) _ = _
      rw [a2]; rfl
    obtain ⟨M, hM, M0, M1, M2⟩ : ∃ M : Int, (if b2.2 < b1.2 then b2.2 else b1.2) = M ∧ 0 < M ∧ M ≤ b1.2 ∧ M ≤ b2.2 := ⟨_, rfl, by split <;> omega, by split <;> omega, by split <;> omega⟩
    have sM : sm M := sm_lt (by omega) (by omega)
    obtain ⟨c, q3, ec, ec', c0, c1'⟩ := draw q2 M M0 (by omega)
    obtain ⟨o1, q4, f1⟩ := form_ap (q := q3) (size := b1.2 - (1 + c) + 1) heR (by omega) (by omega)
    obtain ⟨o2, q5, f2⟩ := form_ap (q := q4) (size := b2.2 - (1 + c) + 1) heR (by omega) (by omega)
    obtain ⟨w, q6, ew, ew', w0, w1⟩ := draw q5 2 (by omega) (by omega)
    have o1h := o1.h
    have o2h := o2.h
    have nz : ¬ ((idx bs pNear).length : Int) = 0 := by omega
    have run : f__law_copy [.ref 1, bv, env] (dh q rest) = if b2.1 = ("main" : Str) then (if w = 1 then .ok (.tup [.str "copy", .int (n2 : Int), o2.d, .int (n1 : Int), o1.d, .int (1 + c)]) (dh q6 rest) else .ok (.tup [.str "copy", .int (n1 : Int), o1.d, .int (n2 : Int), o2.d, .int (1 + c)]) (dh q6 rest)) else .ok (.tup [.str "copy", .int (n1 : Int), o1.d, .int (n2 : Int), o2.d, .int (1 + c)]) (dh q5 rest) := by
      generalize hN : iD (idx bs pNear) = ND at *
      generalize hO : iD (idx bs pOther) = OD at *
      generalize iD (rangeI bs.length) = RD at *
      generalize (bs.length : Int) = BL at *
      generalize ((idx bs pNear).length : Int) = NL at *
      generalize ((idx bs pOther).length : Int) = OL at *
      generalize hC : 1 + c = C1 at *
      unfold f__law_copy s__law_copy
      by_cases u1 : b2.1 = ("main" : Str)
      · by_cases u2 : w = 1
        · simp [ln1, ra, c1, le1, ln2, c2, le2, pu1, -range1, lenN, lenO, nz, k1, k2, sm1, sm2, t1, t1', y1, y2, t2, t2', ix1, ix2, hM, M0, sM, ec, ec', hC, f1, f2, u1, u2, ew, ew', o1h, o2h, cu, lm, -lenF_refO, -ixF_refO]
        · simp [ln1, ra, c1, le1, ln2, c2, le2, pu1, -range1, lenN, lenO, nz, k1, k2, sm1, sm2, t1, t1', y1, y2, t2, t2', ix1, ix2, hM, M0, sM, ec, ec', hC, f1, f2, u1, u2, ew, ew', o1h, o2h, cu, lm, -lenF_refO, -ixF_refO]
      · simp [ln1, ra, c1, le1, ln2, c2, le2, pu1, -range1, lenN, lenO, nz, k1, k2, sm1, sm2, t1, t1', y1, y2, t2, t2', ix1, ix2, hM, M0, sM, ec, ec', hC, f1, f2, u1, ew, ew', o1h, o2h, cu, lm, -lenF_refO, -ixF_refO]
    rw [run]
    by_cases u1 : b2.1 = ("main" : Str)
    · by_cases u2 : w = 1
      · exact ⟨q6, .inr ⟨n2, n1, o2, o1, ⟨.int (1 + c), rfl⟩, by rw [if_pos u1, if_pos u2]; rfl⟩⟩
      · exact ⟨q6, .inr ⟨n1, n2, o1, o2, ⟨.int (1 + c), rfl⟩, by rw [if_pos u1, if_neg u2]; rfl⟩⟩
    · exact ⟨q5, .inr ⟨n1, n2, o1, o2, ⟨.int (1 + c), rfl⟩, by rw [if_neg u1]; rfl⟩⟩
end
def sgA (r__law_statement r__law_body : Fn) : SM := seqS (asgS (b2E addF (b2E mulF (cE (.int 3)) (vE 3)) (nA (callF 2 f__law_take) (consA (vE 0) (consA (cE (.int 3)) (nilA))))) (.one 5)) (seqS (asgS (b2E addF (cE (.int 1)) (nA (callF 2 f__law_take) (consA (vE 0) (consA (cE (.int 3)) (nilA))))) (.one 6)) (seqS (asgS (nA (callF 2 f__law_signed) (consA (vE 0) (consA (cE (.int 2)) (nilA)))) (.one 7)) (seqS (asgS (b2E ixF (nA tupF (consA (cE (.int 1)) (consA (cE (.int 1)) (consA (cE (.int 2)) (consA (b2E subF (cE (.int 0)) (cE (.int 1))) (nilA)))))) (nA (callF 2 f__law_take) (consA (vE 0) (consA (cE (.int 4)) (nilA))))) (.one 8)) (seqS (asgS (b2E addF (vE 2) (nA lstF (consA (nA tupF (consA (vE 5) (consA (compE (rngE rangeF1 (consA (vE 6) (nilA))) [12] (.one 12) yesT (e__law_statement_1 r__law_statement r__law_body)) (nilA)))) (nilA)))) (.one 9)) (seqS (retS (nA tupF (consA (cE (.str "loop")) (consA (vE 5) (consA (vE 7) (consA (vE 8) (consA (vE 6) (consA (nA (callF 5 r__law_body) (consA (vE 0) (consA (vE 1) (consA (vE 9) (consA (b2E addF (vE 3) (cE (.int 1))) (consA (b2E addF (cE (.int 1)) (nA (callF 2 f__law_take) (consA (vE 0) (consA (cE (.int 2)) (nilA))))) (nilA))))))) (nilA))))))))) (nextS))))))
def sgB (r__law_statement r__law_body : Fn) : SM := seqS (retS (nA tupF (consA (cE (.str "when")) (consA (nA (callF 2 f__law_test) (consA (vE 0) (consA (vE 2) (nilA)))) (consA (nA (callF 5 r__law_body) (consA (vE 0) (consA (vE 1) (consA (vE 2) (consA (b2E addF (vE 3) (cE (.int 1))) (consA (b2E addF (cE (.int 1)) (nA (callF 2 f__law_take) (consA (vE 0) (consA (cE (.int 2)) (nilA))))) (nilA))))))) (nilA)))))) (nextS)
def sgC : SM := seqS (asgS (nA (callF 3 f__law_copy) (consA (vE 0) (consA (vE 1) (consA (vE 2) (nilA))))) (.one 10)) (seqS (ifS (tbT (b2E isNotF (vE 10) (cE (.non)))) (seqS (retS (vE 10)) (nextS)) (nextS)) (nextS))
def sgD (r__law_statement r__law_body : Fn) : SM := seqS (asgS (compE (rngE rangeF1 (consA (nA (Dy.f1 lenF) (consA (vE 1) (nilA))) (nilA))) [12] (.one 12) (t__law_statement_0 r__law_statement r__law_body) (e__law_statement_0 r__law_statement r__law_body)) (.one 11)) (seqS (asgS (b2E ixF (vE 11) (nA (callF 2 f__law_take) (consA (vE 0) (consA (nA (Dy.f1 lenF) (consA (vE 11) (nilA))) (nilA))))) (.one 12)) (seqS (retS (nA tupF (consA (cE (.str "put")) (consA (vE 12) (consA (nA (callF 3 f__law_form) (consA (vE 0) (consA (vE 2) (consA (b2E ixF (b2E ixF (vE 1) (vE 12)) (cE (.int 1))) (nilA))))) (consA (nA (callF 4 (f__law_expr 12)) (consA (vE 0) (consA (vE 1) (consA (vE 2) (consA (cE (.int 1)) (nilA)))))) (nilA))))))) (nextS)))
theorem sg_eq (r__law_statement r__law_body : Fn) : s__law_statement r__law_statement r__law_body = seqS (asgS (nA (callF 2 f__law_take) (consA (vE 0) (consA (cE (.int 6)) (nilA)))) (.one 4)) (seqS (ifS (andT (tbT (b2E ltF (vE 4) (cE (.int 3)))) (tbT (b2E ltF (vE 3) (cE (.int 3))))) (sgA r__law_statement r__law_body) nextS) (seqS (ifS (andT (tbT (b2E eqF (vE 4) (cE (.int 3)))) (tbT (b2E ltF (vE 3) (cE (.int 3))))) (sgB r__law_statement r__law_body) nextS) (seqS (ifS (tbT (b2E eqF (vE 4) (cE (.int 4)))) sgC nextS) (sgD r__law_statement r__law_body)))) := rfl
def stP (x : St) : Prop := okS1 x ∧ (bufs1 x).length ≤ 100
structure StG (n : Nat) (s : St) : Prop where
  dp : dpS s ≤ n
  al : (all s).length + 1 ≤ 2 ^ (n + 1)
  sp : ∀ x ∈ all s, stP x
def StRes (r : Fn) (rest : List Cell) (bv env : D) (dep : Int) (n : Nat) : Prop := ∀ q : Dst, ∃ (s : St) (q' : Dst), StG n s ∧ r [.ref 1, bv, env, .int dep] (dh q rest) = .ok (encS s) (dh q' rest)
def BdRes (r : Fn) (rest : List Cell) (bv env : D) (dep : Int) (n : Nat) (m : Nat) : Prop := ∀ q : Dst, ∃ (ss : List St) (q' : Dst), ss.length = m ∧ (∀ s ∈ ss, StG n s) ∧ r [.ref 1, bv, env, .int dep, .int (m : Int)] (dh q rest) = .ok (.tup (sD ss)) (dh q' rest)
section
variable {rest : List Cell} {bv env : D} {bs : Bf} {rs rb : Fn} {x4 x5 x6 x7 x8 x9 x10 x11 x12 : Option D} {dep : Int} {n : Nat}
theorem two_pos (n : Nat) : 2 ≤ 2 ^ (n + 1) := by
  have : 1 ≤ 2 ^ n := Nat.one_le_pow _ _ (by omega)
  have e : 2 ^ (n + 1) = 2 ^ n * 2 := rfl
  omega
theorem stg_copy {a b : Nat} {f g c : Op} : StG n (.copy a b f g c) := ⟨Nat.zero_le _, by show 1 + 1 ≤ _; exact two_pos n, fun x hx => by
  have : x = .copy a b f g c := List.mem_singleton.mp hx
  subst this
  exact ⟨trivial, by show 2 ≤ 100; omega⟩⟩
theorem stg_put {k : Nat} {f : Op} {e : Ex} (h1 : dpt e ≤ 2) (h2 : (exs e).length ≤ 4 ^ 2) : StG n (.put k f e) := ⟨Nat.zero_le _, by show 1 + 1 ≤ _; exact two_pos n, fun x hx => by
  have : x = .put k f e := List.mem_singleton.mp hx
  subst this
  have l := fm_le (e := e)
  exact ⟨⟨by omega, by omega⟩, by show ((exs e).filterMap bufI).length + 1 ≤ 100; omega⟩⟩
theorem sgD_ap (he : EnvOk rest env) (hb : BufOk rest bv bs) (hp : BufP bs) (q : Dst) : ∃ (s : St) (q' : Dst), StG n s ∧ (sgD rs rb [some (.ref 1), some bv, some env, some (.int dep), x4, x5, x6, x7, x8, x9, x10, x11, none] (dh q rest)).fin (rest.length + 2) = .ok (encS s) (dh q' rest) := by
  have c1 := idx_comp (p := pSets) (q := q) (t := .one 12) (tst := t__law_statement_0 rs rb) (elt := e__law_statement_0 rs rb) (e0 := [some (.ref 1), some bv, some env, some (.int dep), x4, x5, x6, x7, x8, x9, x10, x11, none]) hb (fun i b ix => by
    refine ⟨_, tgt_one, ?_, ?_⟩
    · unfold t__law_statement_0 pSets
      simp [ix]
    · unfold e__law_statement_0
      simp)
  have ln1 := hb.len q
  have i1 := idx_len (bs := bs) (p := pSets)
  have l1 := hp.l1
  have le1 : (iD (idx bs pSets)).length ≤ 16777216 := by rw [iD_len]; omega
  have ra := range_len hp
  obtain ⟨R, hR⟩ : ∃ R, R = rest ++ [Cell.lst (iD (idx bs pSets))] := ⟨_, rfl⟩
  have heR : EnvOk R env := by rw [hR]; exact he.app
  have hbR : BufOk R bv bs := by rw [hR]; exact hb.app
  have lnN : ∀ q, (dh q R).at (rest.length + 2) = some (.lst (iD (idx bs pSets))) := fun q => by
    rw [dh_cs, hR, List.getElem?_append_right (Nat.le_refl _), Nat.sub_self]; rfl
  have lenN : ∀ q, lenF (.ref (rest.length + 2)) (dh q R) = .ok (.int ((idx bs pSets).length : Int)) (dh q R) := fun q => by
    rw [lenF_refO, lnN]
    show Res.ok (D.int (((iD (idx bs pSets)).length : Nat) : Int)) _ = _
    rw [iD_len]
  have cu : ∀ q, (dh q R).cut (rest.length + 2) = dh q rest := fun q => by
    rw [dh_cut, hR, List.take_append_of_le_length (Nat.le_refl _), List.take_length]
  have lm : ∀ q, (dh q R).lim = 0 := fun q => rfl
  obtain ⟨z1, hz1⟩ := hp.b1
  have pos := idx_pos (p := pSets) hz1 sets_main
  obtain ⟨j1, x1, q1, t1, t1', m1, a1⟩ := mem_draw (xs := idx bs pSets) pos (by omega) q
  obtain ⟨n1, b1, rfl, hb1, _⟩ := idx_mem m1
  have s1 := hp.sz b1 (List.mem_of_getElem? hb1)
  have ix1 := fun q => hbR.at_ q hb1
  have k1 : 0 < ((idx bs pSets).length : Int) := by omega
  have sm1 : sm ((idx bs pSets).length : Int) := sm_lt (by omega) (by omega)
  have y1 : ∀ q, ixF (.ref (rest.length + 2)) (.int j1) (dh q R) = .ok (.int (n1 : Int)) (dh q R) := fun q => by
    rw [ixF_refO, lnN]
    show okO (L2.atI (iD (idx bs pSets)) j1) _ = _
    rw [a1]; rfl
  obtain ⟨o, q2, f1⟩ := form_ap (q := q1) (size := b1.2) heR (by omega) (by omega)
  obtain ⟨e, q3, ⟨e1, e2⟩, ee⟩ := expr_ap heR hbR hp 2 11 1 (by omega) (by omega) q2
  refine ⟨.put n1 o e, q3, stg_put e1 e2, ?_⟩
  have oh := o.h
  have eh := encE_mr e
  show _ = Res.ok (D.tup [.str "put", .int (n1 : Int), o.d, encE e]) _
  generalize encE e = EX at *
  have pu1 : dh q (rest ++ [Cell.lst (iD (idx bs pSets))]) = dh q R := by rw [hR]
  generalize hN : iD (idx bs pSets) = ND at *
  generalize iD (rangeI bs.length) = RD at *
  generalize (bs.length : Int) = BL at *
  generalize ((idx bs pSets).length : Int) = NL at *
  unfold sgD
  simp [ln1, ra, c1, le1, pu1, lenN, k1, sm1, t1, t1', y1, ix1, f1, ee, oh, eh, cu, lm, -range1, -lenF_refO, -ixF_refO]
theorem stg_loop1 {v s t c : Op} {a : St} (h : StG n a) : StG (n + 1) (.loop1 v s t c a) := ⟨by show dpS a + 1 ≤ _; have := h.dp; omega, by
  show (all a).length + 1 + 1 ≤ 2 ^ (n + 1) * 2
  have := h.al; have := two_pos n; omega, fun x hx => by
  rcases List.mem_cons.mp hx with e | e
  · subst e; exact ⟨trivial, Nat.zero_le _⟩
  · exact h.sp x e⟩
theorem stg_loop2 {v s t c : Op} {a b : St} (h : StG n a) (h' : StG n b) : StG (n + 1) (.loop2 v s t c a b) := ⟨by show max (dpS a) (dpS b) + 1 ≤ _; have := h.dp; have := h'.dp; omega, by
  show (all a ++ all b).length + 1 + 1 ≤ 2 ^ (n + 1) * 2
  rw [List.length_append]
  have := h.al; have := h'.al; omega, fun x hx => by
  rcases List.mem_cons.mp hx with e | e
  · subst e; exact ⟨trivial, Nat.zero_le _⟩
  · rcases List.mem_append.mp e with e | e
    · exact h.sp x e
    · exact h'.sp x e⟩
theorem stg_when1 {t : Op} {a : St} (h : StG n a) : StG (n + 1) (.when1 t a) := ⟨by show dpS a + 1 ≤ _; have := h.dp; omega, by
  show (all a).length + 1 + 1 ≤ 2 ^ (n + 1) * 2
  have := h.al; have := two_pos n; omega, fun x hx => by
  rcases List.mem_cons.mp hx with e | e
  · subst e; exact ⟨trivial, Nat.zero_le _⟩
  · exact h.sp x e⟩
theorem stg_when2 {t : Op} {a b : St} (h : StG n a) (h' : StG n b) : StG (n + 1) (.when2 t a b) := ⟨by show max (dpS a) (dpS b) + 1 ≤ _; have := h.dp; have := h'.dp; omega, by
  show (all a ++ all b).length + 1 + 1 ≤ 2 ^ (n + 1) * 2
  rw [List.length_append]
  have := h.al; have := h'.al; omega, fun x hx => by
  rcases List.mem_cons.mp hx with e | e
  · subst e; exact ⟨trivial, Nat.zero_le _⟩
  · rcases List.mem_append.mp e with e | e
    · exact h.sp x e
    · exact h'.sp x e⟩
def EnvB (rest : List Cell) (env : D) (n : Nat) : Prop := ∃ (E : Nat) (ds : List D), env = .ref (E + 2) ∧ rest[E]? = some (.lst ds) ∧ ds.length + n ≤ 50 ∧ Vars rest ds
theorem EnvB.ok (h : EnvB rest env n) : EnvOk rest env := by
  obtain ⟨E, ds, a, b, c, d⟩ := h
  exact ⟨E, ds, a, b, by omega, d⟩
theorem EnvB.le {m : Nat} (h : EnvB rest env n) (hm : m ≤ n) : EnvB rest env m := by
  obtain ⟨E, ds, a, b, c, d⟩ := h
  exact ⟨E, ds, a, b, by omega, d⟩
/-- a drawn loop -/
theorem sgA_ap (he : EnvB rest env (n + 1)) (hb : BufOk rest bv bs) (hrb : ∀ (R : List Cell) (en : D) (m : Nat), m ≤ 2 → EnvB R en n → BufOk R bv bs → BdRes rb R bv en (dep + 1) n m) (d0 : 0 ≤ dep) (d1 : dep < 3) (q : Dst) : ∃ (s : St) (q' : Dst), StG (n + 1) s ∧ (sgA rs rb [some (.ref 1), some bv, some env, some (.int dep), x4, none, none, none, none, none, none, none, none] (dh q rest)).fin (rest.length + 2) = .ok (encS s) (dh q' rest) := by
  obtain ⟨v, q1, ea, ea', a0, a1⟩ := draw q 3 (by omega) (by omega)
  obtain ⟨c, q2, ec, ec', c0, c1⟩ := draw q1 3 (by omega) (by omega)
  obtain ⟨st, q3, es, s0, s1⟩ := signed_ap (q := q2) (rest := rest) (m := 2) (by omega) (by omega)
  obtain ⟨r4, q4, e4, e4', r0, r1⟩ := draw q3 4 (by omega) (by omega)
  obtain ⟨sp, p0, p1, px⟩ := pick4 r0 r1
  obtain ⟨E, ds, rfl, hE, lds, hv⟩ := he
  obtain ⟨cn, rfl⟩ := Int.eq_ofNat_of_zero_le c0
  have sd : sm dep := sm_lt (by omega) (by omega)
  have s3 : sm (3 : Int) := sm_lt (by omega) (by omega)
  have ssp : sm sp := sm_lt (by omega) (by omega)
  have ra : ∀ h, rangeF1 [.int (1 + (cn : Int))] h = .ok (.vals (rangeD 0 1 (cn + 1))) h := fun h => by
    rw [range1 (in62_lit (by omega) (by omega))]
    congr 2
    rw [show (1 + (cn : Int)).toNat = cn + 1 by omega]
  obtain ⟨VS, hVS⟩ : ∃ VS : List Int, VS = (rangeI (cn + 1)).map fun k => st + sp * k := ⟨_, rfl⟩
  have co := compV_map (t := .one 12) (tst := yesT) (elt := e__law_statement_1 rs rb) (e0 := [some (.ref 1), some bv, some (.ref (E + 2)), some (.int dep), x4, some (.int (3 * dep + v)), some (.int (1 + (cn : Int))), some (.int st), some (.int sp), none, none, none, none]) (h := dh q4 rest) (p := fun _ => true) (g := fun d => match d with | .int k => .int (st + sp * k) | d => d) (ds := rangeD 0 1 (cn + 1)) (fun d hd => by
    obtain ⟨k, hk, rfl⟩ := List.mem_map.mp hd
    have hk := List.mem_range.mp hk
    have sk : sm (0 + (k : Int) * 1) := sm_lt (by omega) (by omega)
    refine ⟨_, tgt_one, rfl, fun _ => ?_⟩
    unfold e__law_statement_1
    generalize 0 + (k : Int) * 1 = K at *
    simp [ssp, sk])
  have fe : ((rangeD 0 1 (cn + 1)).filter fun _ => true).map (fun d => match d with | .int k => D.int (st + sp * k) | d => d) = iD VS := by
    rw [List.filter_eq_self.mpr (fun _ _ => rfl), rangeD_I, hVS]
    unfold iD
    rw [List.map_map, List.map_map]
    rfl
  rw [fe] at co
  have lv : VS.length = cn + 1 := by rw [hVS]; unfold rangeI; simp
  have vb : ∀ x ∈ VS, -1000 ≤ x ∧ x ≤ 1000 := fun x hx => by
    rw [hVS] at hx
    obtain ⟨k, hk, rfl⟩ := List.mem_map.mp hx
    obtain ⟨j, hj, rfl⟩ := List.mem_map.mp hk
    have hj := List.mem_range.mp hj
    have hsp : sp = -1 ∨ sp = 0 ∨ sp = 1 ∨ sp = 2 := by omega
    rcases hsp with rfl | rfl | rfl | rfl <;> omega
  obtain ⟨v0, vs, hvs⟩ : ∃ v0 vs, VS = v0 :: vs := by
    cases VS with
    | nil => simp at lv
    | cons a b => exact ⟨a, b, rfl⟩
  have leV : (iD VS).length ≤ 16777216 := by rw [iD_len]; omega
  obtain ⟨R, hR⟩ : ∃ R, R = rest ++ [Cell.lst (iD VS), Cell.lst [.tup [.int (3 * dep + v), .ref (rest.length + 2)]], Cell.lst (ds ++ [.tup [.int (3 * dep + v), .ref (rest.length + 2)]])] := ⟨_, rfl⟩
  have heR : EnvB R (.ref (rest.length + 2 + 2)) n := by
    refine ⟨rest.length + 2, ds ++ [.tup [.int (3 * dep + v), .ref (rest.length + 2)]], rfl, by rw [hR, List.getElem?_append_right (by omega)]; simp, ?_, fun d hd => ?_⟩
    · rw [List.length_append]
      have : [D.tup [.int (3 * dep + v), .ref (rest.length + 2)]].length = 1 := rfl
      omega
    · rcases List.mem_append.mp hd with h | h
      · rw [hR]; exact hv.app d h
      · rw [List.mem_singleton.mp h]
        exact ⟨_, _, v0, vs, rfl, by rw [hR, List.getElem?_append_right (by omega), hvs]; simp, by rw [← hvs]; exact vb, by rw [← hvs]; omega⟩
  have hbR : BufOk R bv bs := by rw [hR]; exact hb.app
  obtain ⟨w, q5, ew, ew', w0, w1⟩ := draw q4 2 (by omega) (by omega)
  obtain ⟨m, hm⟩ : ∃ m : Nat, 1 + w = (m : Int) := ⟨(1 + w).toNat, by omega⟩
  obtain ⟨ss, q6, z1, z2, z3⟩ := hrb R _ m (by omega) heR hbR q5
  have ad := ladd_ap (h := dh q4 (rest ++ [Cell.lst (iD VS), Cell.lst [.tup [.int (3 * dep + v), .ref (rest.length + 2)]]])) (m := E + 2) (n := rest.length + 1 + 2) (xs := ds) (ys := [.tup [.int (3 * dep + v), .ref (rest.length + 2)]]) (by
      rw [dh_cs, List.getElem?_append_left (List.getElem?_eq_some_iff.mp hE).1]; exact hE) (by rw [dh_cs, List.getElem?_append_right (by omega)]; simp) (by show ds.length + 1 ≤ _; omega)
  have hpu : (dh q4 (rest ++ [Cell.lst (iD VS), Cell.lst [.tup [.int (3 * dep + v), .ref (rest.length + 2)]]])).push (.lst (ds ++ [.tup [.int (3 * dep + v), .ref (rest.length + 2)]])) = dh q4 R := by
    rw [dh_push, hR, List.append_assoc]; rfl
  have hln : (dh q4 (rest ++ [Cell.lst (iD VS), Cell.lst [.tup [.int (3 * dep + v), .ref (rest.length + 2)]]])).cs.length = rest.length + 2 + 2 := by rw [dh_len, List.length_append]; rfl
  rw [hpu, hln] at ad
  have cu : ∀ q, (dh q R).cut (rest.length + 2) = dh q rest := fun q => by
    rw [dh_cut, hR, List.take_append_of_le_length (Nat.le_refl _), List.take_length]
  have lm : ∀ q, (dh q R).lim = 0 := fun q => rfl
  have ms := sD_mr (ss := ss)
  have run : (sgA rs rb [some (.ref 1), some bv, some (.ref (E + 2)), some (.int dep), x4, none, none, none, none, none, none, none, none] (dh q rest)).fin (rest.length + 2) = .ok (.tup [.str "loop", .int (3 * dep + v), .int st, .int sp, .int (1 + (cn : Int)), .tup (sD ss)]) (dh q6 rest) := by
    generalize sD ss = SS at *
    generalize hIV : iD VS = IV at *
    generalize hV : 3 * dep + v = V at *
    generalize hC : 1 + (cn : Int) = C at *
    generalize rangeD 0 1 (cn + 1) = RD at *
    unfold sgA
    simp [sd, s3, ea, ea', hV, ec, ec', hC, es, e4, e4', px, ra, co, leV, ad, ew, ew', hm, z3, ms, cu, lm, -range1, -ixF_tupO]
  have lm2 : m = 1 ∨ m = 2 := by omega
  rcases lm2 with e | e
  · rw [e] at z1
    obtain ⟨a, rfl⟩ := List.length_eq_one_iff.mp z1
    exact ⟨.loop1 ⟨.int (3 * dep + v), rfl⟩ ⟨.int st, rfl⟩ ⟨.int sp, rfl⟩ ⟨.int (1 + (cn : Int)), rfl⟩ a, q6, stg_loop1 (z2 a (by simp)), run⟩
  · rw [e] at z1
    obtain ⟨a, b, rfl⟩ := len2 z1
    exact ⟨.loop2 ⟨.int (3 * dep + v), rfl⟩ ⟨.int st, rfl⟩ ⟨.int sp, rfl⟩ ⟨.int (1 + (cn : Int)), rfl⟩ a b, q6, stg_loop2 (z2 a (by simp)) (z2 b (by simp)), run⟩
/-- a drawn when -/
theorem sgB_ap (he : EnvB rest env (n + 1)) (hb : BufOk rest bv bs) (hrb : ∀ (R : List Cell) (en : D) (m : Nat), m ≤ 2 → EnvB R en n → BufOk R bv bs → BdRes rb R bv en (dep + 1) n m) (q : Dst) : ∃ (s : St) (q' : Dst), StG (n + 1) s ∧ (sgB rs rb [some (.ref 1), some bv, some env, some (.int dep), x4, x5, x6, x7, x8, x9, x10, x11, x12] (dh q rest)).fin (rest.length + 2) = .ok (encS s) (dh q' rest) := by
  obtain ⟨o, q1, t⟩ := test_ap (q := q) he.ok
  obtain ⟨w, q5, ew, ew', w0, w1⟩ := draw q1 2 (by omega) (by omega)
  obtain ⟨m, hm⟩ : ∃ m : Nat, 1 + w = (m : Int) := ⟨(1 + w).toNat, by omega⟩
  obtain ⟨ss, q6, z1, z2, z3⟩ := hrb rest _ m (by omega) (he.le (by omega)) hb q5
  have ms := sD_mr (ss := ss)
  have oh := o.h
  have run : (sgB rs rb [some (.ref 1), some bv, some env, some (.int dep), x4, x5, x6, x7, x8, x9, x10, x11, x12] (dh q rest)).fin (rest.length + 2) = .ok (.tup [.str "when", o.d, .tup (sD ss)]) (dh q6 rest) := by
    generalize sD ss = SS at *
    unfold sgB
    simp [t, ew, ew', hm, z3, ms, oh]
  have lm2 : m = 1 ∨ m = 2 := by omega
  rcases lm2 with e | e
  · rw [e] at z1
    obtain ⟨a, rfl⟩ := List.length_eq_one_iff.mp z1
    exact ⟨.when1 o a, q6, stg_when1 (z2 a (by simp)), run⟩
  · rw [e] at z1
    obtain ⟨a, b, rfl⟩ := len2 z1
    exact ⟨.when2 o a b, q6, stg_when2 (z2 a (by simp)) (z2 b (by simp)), run⟩
theorem nonD_enc {s : St} : isNonD (encS s) = false := by cases s <;> rfl
theorem seq_fin {O : Out} {S : SM} {N : Nat} {d : D} {h' : PH} (h : O.fin N = .ok d h') (nd : isNonD d = false) : (O.seq S).fin N = .ok d h' := by
  cases O with
  | nxt e h1 =>
    rw [fin_nxt] at h
    injection h with h _
    subst h
    cases nd
  | _ => exact h
theorem stmt_run (he : EnvB rest env n) (hb : BufOk rest bv bs) (hp : BufP bs) (d0 : 0 ≤ dep) (hrb : dep < 3 → ∃ k, n = k + 1 ∧ ∀ (R : List Cell) (en : D) (m : Nat), m ≤ 2 → EnvB R en k → BufOk R bv bs → BdRes rb R bv en (dep + 1) k m) : StRes (runF (s__law_statement rs rb) 4 13) rest bv env dep n := fun q => by
  obtain ⟨u, q1, ea, ea', a0, a1⟩ := draw q 6 (by omega) (by omega)
  rw [sg_eq]
  by_cases c1 : u < 3 ∧ dep < 3
  · obtain ⟨c1, c2⟩ := c1
    obtain ⟨k, rfl, hk⟩ := hrb c2
    obtain ⟨s, q', h1, h2⟩ := sgA_ap (rs := rs) (x4 := some (.int u)) he hb hk d0 c2 q1
    have w := fun S => seq_fin (S := S) h2 nonD_enc
    exact ⟨s, q', h1, by simp [ea, ea', c1, c2, w]⟩
  · by_cases c2 : u = 3 ∧ dep < 3
    · obtain ⟨c3, c2⟩ := c2
      subst c3
      obtain ⟨k, rfl, hk⟩ := hrb c2
      obtain ⟨s, q', h1, h2⟩ := sgB_ap (rs := rs) (rb := rb) (x4 := some (.int 3)) (x5 := none) (x6 := none) (x7 := none) (x8 := none) (x9 := none) (x10 := none) (x11 := none) (x12 := none) he hb hk q1
      have w := fun S => seq_fin (S := S) h2 nonD_enc
      exact ⟨s, q', h1, by simp [ea, ea', c2, w]⟩
    · have skipA : ∀ h, (andT (tbT (b2E ltF (vE 4) (cE (.int 3)))) (tbT (b2E ltF (vE 3) (cE (.int 3))))) [some (.ref 1), some bv, some env, some (.int dep), some (.int u), none, none, none, none, none, none, none, none] h = .ok false h := fun h => by
        by_cases z : u < 3
        · have z2 : ¬ dep < 3 := fun y => c1 ⟨z, y⟩
          simp [z, z2]
        · simp [z]
      have skipB : ∀ h, (andT (tbT (b2E eqF (vE 4) (cE (.int 3)))) (tbT (b2E ltF (vE 3) (cE (.int 3))))) [some (.ref 1), some bv, some env, some (.int dep), some (.int u), none, none, none, none, none, none, none, none] h = .ok false h := fun h => by
        by_cases z : u = 3
        · have z2 : ¬ dep < 3 := fun y => c2 ⟨z, y⟩
          simp [z, z2]
        · simp [z]
      generalize andT (tbT (b2E ltF (vE 4) (cE (.int 3)))) (tbT (b2E ltF (vE 3) (cE (.int 3)))) = TA at *
      generalize andT (tbT (b2E eqF (vE 4) (cE (.int 3)))) (tbT (b2E ltF (vE 3) (cE (.int 3)))) = TB at *
      by_cases c3 : u = 4
      · obtain ⟨q2, cp⟩ := copy_ap he.ok hb hp q1
        rcases cp with cp | ⟨a, b, f, g, c, cp⟩
        · obtain ⟨s, q', h1, h2⟩ := sgD_ap (rs := rs) (rb := rb) (dep := dep) (x4 := some (.int u)) (x5 := none) (x6 := none) (x7 := none) (x8 := none) (x9 := none) (x10 := some .non) (x11 := none) he.ok hb hp q2
          refine ⟨s, q', h1, ?_⟩
          unfold sgC
          subst c3
          simp [ea, ea', skipA, skipB, cp, h2]
        · refine ⟨.copy a b f g c, q2, stg_copy, ?_⟩
          have nn := nonD_enc (s := .copy a b f g c)
          have mm := encS_mr (.copy a b f g c)
          generalize encS (.copy a b f g c) = CP at *
          unfold sgC
          subst c3
          simp [ea, ea', skipA, skipB, cp, nn, mm]
      · obtain ⟨s, q', h1, h2⟩ := sgD_ap (rs := rs) (rb := rb) (dep := dep) (x4 := some (.int u)) (x5 := none) (x6 := none) (x7 := none) (x8 := none) (x9 := none) (x10 := none) (x11 := none) he.ok hb hp q1
        refine ⟨s, q', h1, ?_⟩
        simp [ea, ea', skipA, skipB, c3, h2]
theorem body_run {m : Nat} (hm : m ≤ 1000) (hs : StRes rs rest bv env dep n) : BdRes (runF (s__law_body rs rb) 5 6) rest bv env dep n m := fun q => by
  obtain ⟨ss, q1, k1, k2, k3⟩ := comp_dr (α := St) (enc := encS) (P := StG n) (rest := rest) (t := .one 5) (elt := e__law_body_0 rs rb) (e0 := [some (.ref 1), some bv, some env, some (.int dep), some (.int (m : Int)), none]) (rangeD 0 1 m) (fun q d hd => by
    obtain ⟨s, q', h1, h2⟩ := hs q
    refine ⟨_, s, q', tgt_one, h1, ?_⟩
    unfold e__law_body_0
    simp [h2]) q
  rw [rangeD_len] at k1
  refine ⟨ss, q1, k1, k2, ?_⟩
  have k3 : compV (.one 5) yesT (e__law_body_0 rs rb) [some (.ref 1), some bv, some env, some (.int dep), some (.int (m : Int)), none] (rangeD 0 1 m) (dh q rest) = .ok (sD ss) (dh q1 rest) := k3
  have ra : ∀ h, rangeF1 [.int (m : Int)] h = .ok (.vals (rangeD 0 1 m)) h := fun h => by rw [range1 (in62_lit (by omega) (by omega)), Int.toNat_natCast]
  have ls : (sD ss).length ≤ 16777216 := by rw [sD_len]; omega
  have ms := sD_mr (ss := ss)
  have tu : tupleF (.ref (rest.length + 2)) (dh q1 (rest ++ [.lst (sD ss)])) = .ok (.tup (sD ss)) (dh q1 (rest ++ [.lst (sD ss)])) := tupleF_ref (by
    show (rest ++ [Cell.lst (sD ss)])[rest.length]? = _
    rw [List.getElem?_append_right (Nat.le_refl _), Nat.sub_self]; rfl)
  have cu : (dh q1 (rest ++ [.lst (sD ss)])).cut (rest.length + 2) = dh q1 rest := by
    rw [dh_cut, List.take_append_of_le_length (Nat.le_refl _), List.take_length]
  have lm : (dh q1 (rest ++ [.lst (sD ss)])).lim = 0 := rfl
  generalize sD ss = SS at *
  generalize hH : dh q1 (rest ++ [.lst SS]) = H1 at *
  generalize rangeD 0 1 m = RD at *
  unfold s__law_body
  simp [ra, k3, ls, hH, tu, ms, lm, cu, -range1, -tupleF_refO]
theorem gen_ap (hp : BufP bs) : ∀ (n : Nat), (∀ (k : Nat) (dep : Int) (rest : List Cell) (env : D), 2 * n ≤ k → 0 ≤ dep → 3 - dep ≤ n → EnvB rest env n → BufOk rest bv bs → StRes (f__law_statement (k + 1)) rest bv env dep n) ∧ (∀ (k : Nat) (dep : Int) (rest : List Cell) (env : D) (m : Nat), 2 * n + 1 ≤ k → m ≤ 1000 → 0 ≤ dep → 3 - dep ≤ n → EnvB rest env n → BufOk rest bv bs → BdRes (f__law_body (k + 1)) rest bv env dep n m) := by
  have bd : ∀ n, (∀ (k : Nat) (dep : Int) (rest : List Cell) (env : D), 2 * n ≤ k → 0 ≤ dep → 3 - dep ≤ n → EnvB rest env n → BufOk rest bv bs → StRes (f__law_statement (k + 1)) rest bv env dep n) → (∀ (k : Nat) (dep : Int) (rest : List Cell) (env : D) (m : Nat), 2 * n + 1 ≤ k → m ≤ 1000 → 0 ≤ dep → 3 - dep ≤ n → EnvB rest env n → BufOk rest bv bs → BdRes (f__law_body (k + 1)) rest bv env dep n m) := fun n h k dep rest env m hk hm h0 hd he hb => by
    obtain ⟨k, rfl⟩ : ∃ j, k = j + 1 := ⟨k - 1, by omega⟩
    exact body_run hm (h k dep rest env (by omega) h0 hd he hb)
  intro n
  induction n with
  | zero =>
    have s0 : ∀ (k : Nat) (dep : Int) (rest : List Cell) (env : D), 2 * 0 ≤ k → 0 ≤ dep → 3 - dep ≤ (0 : Nat) → EnvB rest env 0 → BufOk rest bv bs → StRes (f__law_statement (k + 1)) rest bv env dep 0 := fun k dep rest env _ h0 hd he hb => stmt_run he hb hp h0 (fun z => by omega)
    exact ⟨s0, bd 0 s0⟩
  | succ n ih =>
    have s1 : ∀ (k : Nat) (dep : Int) (rest : List Cell) (env : D), 2 * (n + 1) ≤ k → 0 ≤ dep → 3 - dep ≤ (n + 1 : Nat) → EnvB rest env (n + 1) → BufOk rest bv bs → StRes (f__law_statement (k + 1)) rest bv env dep (n + 1) := fun k dep rest env hk h0 hd he hb => stmt_run he hb hp h0 (fun z => by
      obtain ⟨k, rfl⟩ : ∃ j, k = j + 1 := ⟨k - 1, by omega⟩
      exact ⟨n, rfl, fun R en m hm h1 h2 => ih.2 k (dep + 1) R en m (by omega) (by omega) (by omega) (by omega) h1 h2⟩)
    exact ⟨s1, bd (n + 1) s1⟩
end
/-! ### the drawn program -/
theorem StG.up {n : Nat} {s : St} (h : StG n s) : StG (n + 1) s := ⟨by have := h.dp; omega, by
  have := h.al
  have e : 2 ^ (n + 1 + 1) = 2 ^ (n + 1) * 2 := rfl
  omega, h.sp⟩
theorem pick4s {r : Int} (h0 : 0 ≤ r) (h1 : r < 4) : ∃ k : Str, ∀ h, ixF (.tup [.str "near", .str "main", .str "in", .str "near"]) (.int r) h = .ok (.str k) h := by
  rcases (show r = 0 ∨ r = 1 ∨ r = 2 ∨ r = 3 by omega) with rfl | rfl | rfl | rfl
  all_goals exact ⟨_, fun h => rfl⟩
theorem bD_app {a b : Bf} : bD (a ++ b) = bD a ++ bD b := List.map_append
theorem more_loop {x1 x4 x5 : Option D} : ∀ (n : Nat) (j : Int) (q : Dst) (bs : Bf) (x3 : Option D), bs.length + n ≤ 1000 → (∀ b ∈ bs, 1 ≤ b.2 ∧ b.2 ≤ 5) → ∃ (q' : Dst) (cs : Bf) (x3' : Option D), cs.length = n ∧ (∀ b ∈ cs, 1 ≤ b.2 ∧ b.2 ≤ 5) ∧
    forV (.one 3) b__law_program_1 3 (rangeD j 1 n) [some (.ref 1), x1, some (.ref 2), x3, x4, x5] (dh q [.lst (bD bs)]) = .nxt [some (.ref 1), x1, some (.ref 2), x3', x4, x5] (dh q' [.lst (bD (bs ++ cs))]) := by
  intro n
  induction n with
  | zero => intro j q bs x3 _ _; exact ⟨q, [], x3, rfl, fun b h => (by cases h), by rw [List.append_nil]; rfl⟩
  | succ n ih =>
    intro j q bs x3 ln hb
    obtain ⟨r, q1, ea, ea', a0, a1⟩ := draw q 4 (by omega) (by omega)
    obtain ⟨k, kx⟩ := pick4s a0 a1
    obtain ⟨z, q2, ez, ez', z0, z1⟩ := draw q1 5 (by omega) (by omega)
    have e0 : (dh q2 [.lst (bD bs)]).at 2 = some (.lst (bD bs)) := rfl
    have il : ∀ q, isLst ((dh q [.lst (bD bs)]).at 2) = true := fun q => rfl
    have ap := app_ap (d := .tup [.str k, .int (1 + z)]) e0 (by rw [bD_len]; omega)
    have e1 : bD bs ++ [.tup [.str k, .int (1 + z)]] = bD (bs ++ [(k, 1 + z)]) := by rw [bD_app]; rfl
    rw [e1] at ap
    have pu : (dh q2 [.lst (bD bs)]).put 2 (.lst (bD (bs ++ [(k, 1 + z)]))) = dh q2 [.lst (bD (bs ++ [(k, 1 + z)]))] := dh_put (n := 0) (by show mrL (bD _) ≤ _; rw [bD_mr]; exact Nat.zero_le _)
    rw [pu] at ap
    obtain ⟨q3, cs, x3', h1, h2, w⟩ := ih (j + 1) q2 (bs ++ [(k, 1 + z)]) (some (.int j)) (by rw [List.length_append]; show bs.length + 1 + n ≤ _; omega) (fun b hb' => by
      rcases List.mem_append.mp hb' with h | h
      · exact hb b h
      · rw [List.mem_singleton.mp h]; exact ⟨by show 1 ≤ 1 + z; omega, by show 1 + z ≤ 5; omega⟩)
    refine ⟨q3, (k, 1 + z) :: cs, x3', by simp [h1], fun b hb' => ?_, ?_⟩
    · rcases List.mem_cons.mp hb' with h | h
      · rw [h]; exact ⟨by show 1 ≤ 1 + z; omega, by show 1 + z ≤ 5; omega⟩
      · exact h2 b h
    · have bd : b__law_program_1 [some (.ref 1), x1, some (.ref 2), some (.int j), x4, x5] (dh q [.lst (bD bs)]) = .nxt [some (.ref 1), x1, some (.ref 2), some (.int j), x4, x5] (dh q2 [.lst (bD (bs ++ [(k, 1 + z)]))]) := by
        generalize bD (bs ++ [(k, 1 + z)]) = B2 at *
        generalize bD bs = B1 at *
        unfold b__law_program_1
        simp [il, ea, ea', kx, ez, ez', ap, -ixF_tupO, -appF_refO]
      rw [rangeD_cons, forV_cons, tgt_one, tgtO_some]
      show (b__law_program_1 [some (.ref 1), x1, some (.ref 2), some (.int j), x4, x5] (dh q [.lst (bD bs)])).nextV _ _ _ _ = _
      have gc : ∀ e, (dh q2 [.lst (bD (bs ++ [(k, 1 + z)]))]).gc 3 e = dh q2 [.lst (bD (bs ++ [(k, 1 + z)]))] := fun e => dh_gc3
      rw [bd, nextV_nxt, gc, w, List.append_assoc]
      rfl
def fst0 : Op := ⟨.tup [.int 0, .tup [.tup [.int 0, .int 1]]], rfl⟩
def setSt (k : Nat) (r sz : Int) : St := .loop1 ⟨.int 0, rfl⟩ ⟨.int 0, rfl⟩ ⟨.int 1, rfl⟩ ⟨.int sz, rfl⟩ (.put k fst0 (.idx ⟨.tup [.int r, .tup [.tup [.int 0, .int 2]]], rfl⟩))
theorem setSt_g {k : Nat} {r sz : Int} : StG 3 (setSt k r sz) := (stg_loop1 (stg_put (n := 0) (by show 0 ≤ 2; omega) (by show 1 ≤ _; decide))).up.up
theorem set_loop {b : Bool} {bs : Bf} (hp : BufP bs) : ∀ (ks : List Nat) (q : Dst) (ss : List St) (x3 x5 : Option D), (∀ k ∈ ks, k < bs.length) → ss.length + ks.length ≤ 1000 → ∃ (q' : Dst) (ts : List St) (x3' x5' : Option D), ts.length ≤ ks.length ∧ (∀ s ∈ ts, StG 3 s) ∧
    forV (.one 3) b__law_program_0 4 (iD (ks.map fun (k : Nat) => (k : Int))) [some (.ref 1), some (.bl b), some (.ref 2), x3, some (.ref 3), x5] (dh q [.lst (bD bs), .lst (sD ss)]) = .nxt [some (.ref 1), some (.bl b), some (.ref 2), x3', some (.ref 3), x5'] (dh q' [.lst (bD bs), .lst (sD (ss ++ ts))]) := by
  intro ks
  induction ks with
  | nil => intro q ss x3 x5 _ _; exact ⟨q, [], x3, x5, Nat.le_refl _, fun b h => (by cases h), by rw [List.append_nil]; rfl⟩
  | cons k ks ih =>
    intro q ss x3 x5 hk ln
    rw [List.length_cons] at ln
    have hk1 := hk k List.mem_cons_self
    have e := List.getElem?_eq_getElem hk1
    have ix : ∀ q c, ixF (.ref 2) (.int (k : Int)) (dh q [.lst (bD bs), c]) = .ok (.tup [.str (bs[k]).1, .int (bs[k]).2]) (dh q [.lst (bD bs), c]) := fun q c => BufOk.at_ (rest := [.lst (bD bs), c]) (bv := .ref 2) (bs := bs) (.inl ⟨0, rfl, rfl⟩) q e
    have gc : ∀ q c e, (dh q [.lst (bD bs), c]).gc 4 e = dh q [.lst (bD bs), c] := fun q c e => dh_gc4
    by_cases c : (bs[k]).1 = ("in" : Str) ∨ b = false
    · obtain ⟨q2, ts, x3', x5', h1, h2, w⟩ := ih q ss (some (.int (k : Int))) x5 (fun j h => hk j (List.mem_cons_of_mem _ h)) (by omega)
      refine ⟨q2, ts, x3', x5', by simp; omega, h2, ?_⟩
      have bd : b__law_program_0 [some (.ref 1), some (.bl b), some (.ref 2), some (.int (k : Int)), some (.ref 3), x5] (dh q [.lst (bD bs), .lst (sD ss)]) = .nxt [some (.ref 1), some (.bl b), some (.ref 2), some (.int (k : Int)), some (.ref 3), x5] (dh q [.lst (bD bs), .lst (sD ss)]) := by
        generalize bD bs = B1 at *
        generalize sD ss = S1 at *
        unfold b__law_program_0
        by_cases z : (bs[k]).1 = ("in" : Str)
        · simp [ix, z, -ixF_refO]
        · rcases c with c | c
          · exact absurd c z
          · subst c; simp [ix, z, -ixF_refO]
      show forV (.one 3) b__law_program_0 4 (D.int (k : Int) :: iD (ks.map fun (k : Nat) => (k : Int))) _ _ = _
      rw [forV_cons, tgt_one, tgtO_some]
      show (b__law_program_0 [some (.ref 1), some (.bl b), some (.ref 2), some (.int (k : Int)), some (.ref 3), x5] (dh q [.lst (bD bs), .lst (sD ss)])).nextV _ _ _ _ = _
      rw [bd, nextV_nxt, gc, w]
    · have z : ¬ (bs[k]).1 = ("in" : Str) := fun h => c (.inl h)
      have bt : b = true := by cases b with
        | true => rfl
        | false => exact absurd (.inr rfl) c
      obtain ⟨r, q1, es, _, _⟩ := signed_ap (q := q) (rest := [.lst (bD bs), .lst (sD ss)]) (m := 9) (by omega) (by omega)
      have e0 : (dh q1 [.lst (bD bs), .lst (sD ss)]).at 3 = some (.lst (sD ss)) := rfl
      have il : ∀ q, isLst ((dh q [.lst (bD bs), .lst (sD ss)]).at 3) = true := fun q => rfl
      have ap := app_ap (d := encS (setSt k r (bs[k]).2)) e0 (by rw [sD_len]; omega)
      have e1 : sD ss ++ [encS (setSt k r (bs[k]).2)] = sD (ss ++ [setSt k r (bs[k]).2]) := by rw [sD_app]; rfl
      rw [e1] at ap
      have pu : (dh q1 [.lst (bD bs), .lst (sD ss)]).put 3 (.lst (sD (ss ++ [setSt k r (bs[k]).2]))) = dh q1 [.lst (bD bs), .lst (sD (ss ++ [setSt k r (bs[k]).2]))] := dh_put (n := 1) (by show mrL (sD _) ≤ _; rw [sD_mr]; exact Nat.zero_le _)
      rw [pu] at ap
      obtain ⟨q2, ts, x3', x5', h1, h2, w⟩ := ih q1 (ss ++ [setSt k r (bs[k]).2]) (some (.int (k : Int))) (some (encS (.put k fst0 (.idx ⟨.tup [.int r, .tup [.tup [.int 0, .int 2]]], rfl⟩)))) (fun j h => hk j (List.mem_cons_of_mem _ h)) (by rw [List.length_append]; show ss.length + 1 + _ ≤ _; omega)
      refine ⟨q2, setSt k r (bs[k]).2 :: ts, x3', x5', by simp; omega, fun s hs => ?_, ?_⟩
      · rcases List.mem_cons.mp hs with h | h
        · rw [h]; exact setSt_g
        · exact h2 s h
      · have bd : b__law_program_0 [some (.ref 1), some (.bl b), some (.ref 2), some (.int (k : Int)), some (.ref 3), x5] (dh q [.lst (bD bs), .lst (sD ss)]) = .nxt [some (.ref 1), some (.bl b), some (.ref 2), some (.int (k : Int)), some (.ref 3), some (encS (.put k fst0 (.idx ⟨.tup [.int r, .tup [.tup [.int 0, .int 2]]], rfl⟩)))] (dh q1 [.lst (bD bs), .lst (sD (ss ++ [setSt k r (bs[k]).2]))]) := by
          subst bt
          have ap : appF (.ref 3) [.tup [.str "loop", .int 0, .int 0, .int 1, .int (bs[k]).2, .tup [.tup [.str "put", .int (k : Int), .tup [.int 0, .tup [.tup [.int 0, .int 1]]], .tup [.str "index", .tup [.int r, .tup [.tup [.int 0, .int 2]]]]]]]] (dh q1 [.lst (bD bs), .lst (sD ss)]) = _ := ap
          show _ = Out.nxt [some (D.ref 1), some (D.bl true), some (D.ref 2), some (D.int (k : Int)), some (D.ref 3), some (D.tup [.str "put", .int (k : Int), .tup [.int 0, .tup [.tup [.int 0, .int 1]]], .tup [.str "index", .tup [.int r, .tup [.tup [.int 0, .int 2]]]]])] _
          generalize sD (ss ++ [setSt k r (bs[k]).2]) = S2 at *
          generalize bD bs = B1 at *
          generalize sD ss = S1 at *
          unfold b__law_program_0
          simp [ix, z, es, il, ap, -ixF_refO, -appF_refO]
        show forV (.one 3) b__law_program_0 4 (D.int (k : Int) :: iD (ks.map fun (k : Nat) => (k : Int))) _ _ = _
        rw [forV_cons, tgt_one, tgtO_some]
        show (b__law_program_0 [some (.ref 1), some (.bl b), some (.ref 2), some (.int (k : Int)), some (.ref 3), x5] (dh q [.lst (bD bs), .lst (sD ss)])).nextV _ _ _ _ = _
        rw [bd, nextV_nxt, gc, w, List.append_assoc]
        rfl
theorem tadd_ap {xs ys : List D} {h : PH} (l : xs.length + ys.length ≤ 16777216) : addF (.tup xs) (.tup ys) h = .ok (.tup (xs ++ ys)) h := by
  show (if xs.length + ys.length ≤ 16777216 then Res.ok (D.tup (xs ++ ys)) h else .stuck) = _
  rw [if_pos l]
theorem program_ap (b : Bool) (q : Dst) : ∃ (bs : Bf) (ss : List St) (q' : Dst), BufP bs ∧ (∀ s ∈ ss, StG 3 s) ∧ ss.length ≤ 20 ∧ f__law_program [.ref 1, .bl b] (dh q []) = .ok (.tup [.tup (bD bs), .tup (sD ss)]) (dh q' []) := by
  obtain ⟨z1, q1, e1, e1', _, _⟩ := draw q 5 (by omega) (by omega)
  obtain ⟨z2, q2, e2, e2', _, _⟩ := draw q1 5 (by omega) (by omega)
  obtain ⟨r, q3, e3, e3', r0, r1⟩ := draw q2 3 (by omega) (by omega)
  obtain ⟨n, rfl⟩ := Int.eq_ofNat_of_zero_le r0
  obtain ⟨q4, cs, y3, c1, c2, l1⟩ := more_loop (x1 := some (.bl b)) (x4 := none) (x5 := none) n 0 q3 ([(("in" : Str), 1 + z1), (("main" : Str), 1 + z2)] : Bf) none (by show 2 + n ≤ _; omega) (fun b hb => by
    rcases List.mem_cons.mp hb with h | h
    · rw [h]; exact ⟨by show 1 ≤ 1 + z1; omega, by show 1 + z1 ≤ 5; omega⟩
    · rw [List.mem_singleton.mp h]; exact ⟨by show 1 ≤ 1 + z2; omega, by show 1 + z2 ≤ 5; omega⟩)
  obtain ⟨bs, hbs⟩ : ∃ bs : Bf, bs = ([(("in" : Str), 1 + z1), (("main" : Str), 1 + z2)] : Bf) ++ cs := ⟨_, rfl⟩
  have hp : BufP bs := by
    rw [hbs]
    refine ⟨by show 2 ≤ cs.length + 1 + 1; omega, by show cs.length + 1 + 1 ≤ 10; omega, fun b hb => ?_, ⟨_, rfl⟩, ⟨_, rfl⟩⟩
    rcases List.mem_append.mp hb with hb | hb
    · rcases List.mem_cons.mp hb with h | h
      · rw [h]; exact ⟨by show 1 ≤ 1 + z1; omega, by show 1 + z1 ≤ 5; omega⟩
      · rw [List.mem_singleton.mp h]; exact ⟨by show 1 ≤ 1 + z2; omega, by show 1 + z2 ≤ 5; omega⟩
    · exact c2 b hb
  rw [← hbs] at l1
  have lb := hp.l1
  obtain ⟨q5, ts, y3', y5', t1, t2, l2⟩ := set_loop (b := b) hp (List.range bs.length) q4 [] y3 none (fun k h => List.mem_range.mp h) (by rw [List.length_range]; show 0 + _ ≤ _; omega)
  rw [List.length_range] at t1
  rw [show (List.range bs.length).map (fun (k : Nat) => (k : Int)) = rangeI bs.length from rfl] at l2
  obtain ⟨w, q6, e6, e6', w0, w1⟩ := draw q5 3 (by omega) (by omega)
  obtain ⟨m, hm⟩ : ∃ m : Nat, 1 + w = (m : Int) := ⟨(1 + w).toNat, by omega⟩
  obtain ⟨us, q7, u1, u2, u3⟩ := (gen_ap (bv := .ref 2) hp 3).2 11 0 [.lst (bD bs), .lst (sD ts), .lst []] (.ref 4) m (by omega) (by omega) (by omega) (by omega) ⟨2, [], rfl, rfl, by show 0 + 3 ≤ 50; omega, fun d h => (by cases h)⟩ (.inl ⟨0, rfl, rfl⟩) q6
  have ad := ladd_ap (h := dh q7 [.lst (bD bs), .lst (sD ts), .lst [], .lst (sD us)]) (m := 3) (n := 5) (xs := sD ts) (ys := sD us) rfl rfl (by rw [sD_len, sD_len]; omega)
  rw [← sD_app] at ad
  have ad : addF (.ref 3) (.ref 5) (dh q7 [.lst (bD bs), .lst (sD ts), .lst [], .lst (sD us)]) = .ok (.ref 6) (dh q7 [.lst (bD bs), .lst (sD ts), .lst [], .lst (sD us), .lst (sD (ts ++ us))]) := ad
  have tu1 : tupleF (.ref 2) (dh q7 [.lst (bD bs), .lst (sD ts), .lst [], .lst (sD us), .lst (sD (ts ++ us))]) = .ok (.tup (bD bs)) _ := tupleF_ref rfl
  have tu2 : tupleF (.ref 6) (dh q7 [.lst (bD bs), .lst (sD ts), .lst [], .lst (sD us), .lst (sD (ts ++ us))]) = .ok (.tup (sD (ts ++ us))) _ := tupleF_ref rfl
  have le : ∀ q c, lenF (.ref 2) (dh q [.lst (bD bs), c]) = .ok (.int (bs.length : Int)) (dh q [.lst (bD bs), c]) := fun q c => BufOk.len (rest := [.lst (bD bs), c]) (bv := .ref 2) (bs := bs) (.inl ⟨0, rfl, rfl⟩) q
  have ra := range_len hp
  have ra2 : ∀ h, rangeF1 [.int (n : Int)] h = .ok (.vals (rangeD 0 1 n)) h := fun h => by rw [range1 (in62_lit (by omega) (by omega)), Int.toNat_natCast]
  have p1 : bD ([(("in" : Str), 1 + z1), (("main" : Str), 1 + z2)] : Bf) = [.tup [.str "in", .int (1 + z1)], .tup [.str "main", .int (1 + z2)]] := rfl
  rw [p1] at l1
  have sn : sD [] = [] := rfl
  rw [sn, List.nil_append] at l2
  have mb := bD_mr (bs := bs)
  have ms := sD_mr (ss := ts ++ us)
  have cu : (dh q7 [.lst (bD bs), .lst (sD ts), .lst [], .lst (sD us), .lst (sD (ts ++ us))]).cut 2 = dh q7 [] := rfl
  have lm : (dh q7 [.lst (bD bs), .lst (sD ts), .lst [], .lst (sD us), .lst (sD (ts ++ us))]).lim = 0 := rfl
  refine ⟨bs, ts ++ us, q7, hp, fun s h => ?_, by rw [List.length_append]; omega, ?_⟩
  · rcases List.mem_append.mp h with h | h
    · exact t2 s h
    · exact u2 s h
  generalize sD (ts ++ us) = TU at *
  generalize sD ts = TS at *
  generalize sD us = US at *
  generalize bD bs = BD at *
  generalize iD (rangeI bs.length) = RD at *
  generalize rangeD 0 1 n = RN at *
  generalize (bs.length : Int) = BL at *
  generalize hK7 : dh q7 [.lst BD, .lst TS, .lst [], .lst US, .lst TU] = K7 at *
  unfold f__law_program s__law_program
  simp [e1, e1', e2, e2', e3, e3', ra2, l1, le, ra, l2, e6, e6', hm, u3, ad, tu1, tu2, mb, ms, lm, cu, -range1, -lenF_refO, -tupleF_refO]
/-! ### equal tuples -/
def wD (rows : List (List Int)) : List D := rows.map fun r => .tup (iD r)
def pyI (ns : List Int) : List PyData := ns.map PyData.int
theorem toPy_I {f : Nat → Option PyData} : ∀ ns : List Int, toPyL f (iD ns) = some (pyI ns)
  | [] => rfl
  | n :: r => by
    show (match toPyL f (iD r) with | some ps => some (PyData.int n :: ps) | none => none) = _
    rw [toPy_I r]; rfl
def pyW (rows : List (List Int)) : List PyData := rows.map fun r => PyData.tuple (pyI r)
theorem toPy_W {f : Nat → Option PyData} : ∀ rows : List (List Int), toPyL f (wD rows) = some (pyW rows)
  | [] => rfl
  | x :: r => by
    show (match (match toPyL f (iD x) with | some ps => some (PyData.tuple ps) | none => none) with | some p => (match toPyL f (wD r) with | some ps => some (p :: ps) | none => none) | none => none) = _
    rw [toPy_I, toPy_W r]; rfl
theorem lay_I : ∀ ns : List Int, PyData.canLayAll0 (pyI ns) = true ∧ PyData.depthAll (pyI ns) = 0
  | [] => ⟨rfl, rfl⟩
  | n :: r => by
    obtain ⟨h1, h2⟩ := lay_I r
    exact ⟨by show (PyData.canLay0 (.int n) && PyData.canLayAll0 (pyI r)) = true; rw [h1]; rfl, by show max 0 (PyData.depthAll (pyI r)) = 0; rw [h2]; rfl⟩
theorem lay_W : ∀ rows : List (List Int), PyData.canLayAll0 (pyW rows) = true ∧ PyData.depthAll (pyW rows) ≤ 1
  | [] => ⟨rfl, Nat.zero_le _⟩
  | x :: r => by
    obtain ⟨h1, h2⟩ := lay_W r
    obtain ⟨h3, h4⟩ := lay_I x
    refine ⟨by show (PyData.canLayAll0 (pyI x) && PyData.canLayAll0 (pyW r)) = true; rw [h1, h3]; rfl, ?_⟩
    show max (PyData.depthAll (pyI x) + 1) (PyData.depthAll (pyW r)) ≤ 1
    omega
theorem ne_self {rows : List (List Int)} {h : PH} : neF (.tup (wD rows)) (.tup (wD rows)) h = .ok (.bl false) h := by
  obtain ⟨l1, l2⟩ := lay_W rows
  have tp : toPy h (.tup (wD rows)) = some (.tuple (pyW rows)) := by
    show (match toPyL (cellPy h 3) (wD rows) with | some ps => some (PyData.tuple ps) | none => none) = _
    rw [toPy_W]
  have c0 : PyData.canLay0 (.tuple (pyW rows)) = true := l1
  have s0 : SeqAt.shaped (.tuple (pyW rows)) = true := by
    show (PyData.canLay0 (.tuple (pyW rows)) && decide (PyData.depthAll (pyW rows) + 1 ≤ 64)) = true
    rw [c0, decide_eq_true (by omega)]; rfl
  have ev : PyData.eqv (.tuple (pyW rows)) (.tuple (pyW rows)) = true := PySem.SeqAt.eqv_refl _ c0
  have e : eqB (.tup (wD rows)) (.tup (wD rows)) h = some true := by
    show eqD h (.tup (wD rows)) (.tup (wD rows)) = _
    unfold eqD
    rw [tp]
    simp only []
    rw [if_pos ⟨s0, s0⟩, ev]
  unfold neF
  rw [e]; rfl
theorem lives_w {bs : Bf} {body : List St} {os ks : List Int} : ∃ rows, livesOf bs body os ks = wD rows := by
  refine ⟨(ks.filter (isM bs)).map fun k => [FI (usOf body k) body.length, LAo os body.length (usOf body k) k], ?_⟩
  unfold livesOf wD
  rw [List.map_map]
  rfl
theorem flat_len {ss : List St} {m : Nat} (h : ∀ s ∈ ss, (bufs1 s).length ≤ m) : (ss.flatMap bufs1).length ≤ m * ss.length := by
  induction ss with
  | nil => simp
  | cons x r ih =>
    have a := ih fun s hs => h s (List.mem_cons_of_mem _ hs)
    have b := h x List.mem_cons_self
    rw [List.flatMap_cons, List.length_append, List.length_cons, Nat.mul_succ]
    omega
theorem StG.okS {s : St} (h : StG 3 s) : okS s := by
  have al := h.al
  have e : 2 ^ (3 + 1) = 16 := rfl
  refine ⟨by have := h.dp; omega, by omega, ?_, fun x hx => (h.sp x hx).1⟩
  have := flat_len (ss := all s) (m := 100) fun x hx => (h.sp x hx).2
  unfold bufs
  omega
/-! ### the law -/
theorem dh_gc_ex {q : Dst} {r : List Cell} {l : Nat} {e : Dy.Env} (hl : 2 ≤ l) : ∃ r', (dh q r).gc l e = dh q r' := by
  unfold PH.gc
  obtain ⟨m, hm⟩ : ∃ m, max l (max (dh q r).lim (mrE e)) = m + 2 := ⟨max l (max (dh q r).lim (mrE e)) - 2, by omega⟩
  rw [hm, dh_cut]
  exact ⟨_, rfl⟩
theorem meet_loop {x0 x2 x3 x4 x5 x6 x7 x8 x9 x10 : Option D} {l : Nat} (hl : 2 ≤ l) : ∀ (n : Nat) (j : Int) (q : Dst) (r : List Cell) (x11 x12 x13 x14 : Option D), ∃ y11 y12 y13 y14 q' r', forV (.one 11) b_law_0 l (rangeD j 1 n) (envL x0 x2 x3 x4 x5 x6 x7 x8 x9 x10 x11 x12 x13 x14) (dh q r) = .nxt (envL x0 x2 x3 x4 x5 x6 x7 x8 x9 x10 y11 y12 y13 y14) (dh q' r') := by
  intro n
  induction n with
  | zero => intro j q r x11 x12 x13 x14; exact ⟨x11, x12, x13, x14, q, r, rfl⟩
  | succ n ih =>
    intro j q r x11 x12 x13 x14
    obtain ⟨y12, y13, y14, q1, r1, t⟩ := mturn_ap (x0 := x0) (x2 := x2) (x3 := x3) (x4 := x4) (x5 := x5) (x6 := x6) (x7 := x7) (x8 := x8) (x9 := x9) (x10 := x10) (x11 := some (.int j)) (x12 := x12) (x13 := x13) (x14 := x14) (q := q) (rest := r)
    obtain ⟨r2, e2⟩ := dh_gc_ex (q := q1) (r := r1) (e := envL x0 x2 x3 x4 x5 x6 x7 x8 x9 x10 (some (.int j)) y12 y13 y14) hl
    obtain ⟨z11, z12, z13, z14, q3, r3, w⟩ := ih (j + 1) q1 r2 (some (.int j)) y12 y13 y14
    refine ⟨z11, z12, z13, z14, q3, r3, ?_⟩
    rw [rangeD_cons, forV_cons, tgt_one, tgtO_some]
    show (b_law_0 (envL x0 x2 x3 x4 x5 x6 x7 x8 x9 x10 (some (.int j)) x12 x13 x14) (dh q r)).nextV _ _ _ _ = _
    rw [t, nextV_nxt, e2, w]
theorem mid_dh {q : Dst} {r : List Cell} {c : Cell} {g : List Cell} : mid (dh q r) c g = dh q (r ++ [c] ++ g) := rfl
theorem pure_law (s : List Int) (hs : s.length ≤ 63) : ∃ h, f_law [.frl (s.map Dy.D.int)] ⟨[], 0⟩ = .ok (.bl true) h := by
  obtain ⟨q0, hq0⟩ : ∃ q0, beginQ s = q0 := ⟨_, rfl⟩
  have be := begin_ap (sc := s)
  rw [hq0] at be
  obtain ⟨u, q1, e1, e1', u0, u1⟩ := draw q0 2 (by omega) (by omega)
  obtain ⟨bs, ss, q2, hp, hss, lss, pr⟩ := program_ap (decide (u = 1)) q1
  obtain ⟨w, q3, e3, e3', w0, w1⟩ := draw q2 2 (by omega) (by omega)
  obtain ⟨m, hm⟩ : ∃ m : Nat, 1 + w = (m : Int) := ⟨(1 + w).toNat, by omega⟩
  obtain ⟨us, q4, lus, hus, bo⟩ := (gen_ap (bv := .tup (bD bs)) hp 3).2 11 0 [.lst []] (.ref 2) m (by omega) (by omega) (by omega) (by omega) ⟨0, [], rfl, rfl, by show 0 + 3 ≤ 50; omega, fun d h => (by cases h)⟩ (.inr rfl) q3
  have tad : ∀ h, addF (.tup (sD ss)) (.tup (sD us)) h = .ok (.tup (sD (ss ++ us))) h := fun h => by rw [tadd_ap (by rw [sD_len, sD_len]; omega), sD_app]
  obtain ⟨v, q5, e5, e5', v0, v1⟩ := draw q4 3 (by omega) (by omega)
  obtain ⟨vn, rfl⟩ := Int.eq_ofNat_of_zero_le v0
  have lb0 := hp.l0
  have lb1 := hp.l1
  have lp : 0 < (bs.length : Int) := by omega
  have lsm : sm (bs.length : Int) := sm_lt (by omega) (by omega)
  obtain ⟨body, hbody⟩ : ∃ body, body = ss ++ us := ⟨_, rfl⟩
  rw [← hbody] at tad
  have okb : ∀ x ∈ body, okS x := fun x hx => by
    rw [hbody] at hx
    rcases List.mem_append.mp hx with h | h
    · exact (hss x h).okS
    · exact (hus x h).okS
  have lbody : body.length ≤ 1000000 := by rw [hbody, List.length_append]; omega
  have le : ∀ h, lenF (.tup (bD bs)) h = .ok (.int (bs.length : Int)) h := fun h => by rw [lenF_tup, bD_len]
  obtain ⟨os, q6, los, _, oc⟩ := comp_dr (α := Int) (enc := D.int) (P := fun _ => True) (rest := [.lst []]) (t := .one 6) (elt := e_law_4) (e0 := [some (.frl (s.map .int)), some (.ref 1), some (.tup (bD bs)), some (.tup (sD body)), none, none, none, none, none, none, none, none, none, none, none, none]) (rangeD 0 1 vn) (fun q d hd => by
    refine ⟨_, takeV q (bs.length : Int), takeQ q (bs.length : Int), tgt_one, trivial, ?_⟩
    generalize bD bs = BD at *
    generalize (bs.length : Int) = BL at *
    unfold e_law_4
    simp [le, lp, lsm, -lenF_tup]) q5
  rw [rangeD_len] at los
  have oc : compV (.one 6) yesT e_law_4 [some (.frl (s.map .int)), some (.ref 1), some (.tup (bD bs)), some (.tup (sD body)), none, none, none, none, none, none, none, none, none, none, none, none] (rangeD 0 1 vn) (dh q5 [.lst []]) = .ok (iD os) (dh q6 [.lst []]) := oc
  have ra1 : ∀ h, rangeF1 [.int (vn : Int)] h = .ok (.vals (rangeD 0 1 vn)) h := fun h => by rw [range1 (in62_lit (by omega) (by omega)), Int.toNat_natCast]
  have lo1 : (iD os).length ≤ 16777216 := by rw [iD_len]; omega
  have tu1 : tupleF (.ref 3) (dh q6 [.lst [], .lst (iD os)]) = .ok (.tup (iD os)) (dh q6 [.lst [], .lst (iD os)]) := tupleF_ref rfl
  have rbs := range_len hp
  obtain ⟨g1, y6, y7, y8, y9, dl⟩ := due_loop (Z := dh q6 [.lst [], .lst (iD os)]) (x0 := some (.frl (s.map .int))) (x1 := some (.ref 1)) (os := os) (bs := bs) (body := body) (Nat.zero_le _) okb lbody (l := 5) (Nat.le_refl _) (List.range bs.length) none none none none [] [] (fun k h => List.mem_range.mp h) (by rw [List.length_range]; show 0 + _ ≤ _; omega) rfl
  rw [show (List.range bs.length).map (fun (k : Nat) => (k : Int)) = rangeI bs.length from rfl, List.nil_append, mid_dh, mid_dh] at dl
  have lv := lives_ap (bs := bs) (body := body) (os := os) (h := dh q6 ([.lst [], .lst (iD os)] ++ [.lst (livesOf bs body os (rangeI bs.length))] ++ g1)) (Nat.zero_le _) okb lbody (by omega)
  have tu2 : tupleF (.ref 4) (dh q6 ([.lst [], .lst (iD os)] ++ [.lst (livesOf bs body os (rangeI bs.length))] ++ g1)) = .ok (.tup (livesOf bs body os (rangeI bs.length))) (dh q6 ([.lst [], .lst (iD os)] ++ [.lst (livesOf bs body os (rangeI bs.length))] ++ g1)) := tupleF_ref rfl
  obtain ⟨rows, hr⟩ := lives_w (bs := bs) (body := body) (os := os) (ks := rangeI bs.length)
  have ne := fun h => ne_self (rows := rows) (h := h)
  rw [hr] at dl lv tu2
  have ra3 : ∀ h, rangeF1 [.int 3] h = .ok (.vals (rangeD 0 1 3)) h := fun h => range1 (in62_lit (by omega) (by omega))
  obtain ⟨z11, z12, z13, z14, q9, r9, ml⟩ := meet_loop (x0 := some (.frl (s.map .int))) (x2 := some (.tup (bD bs))) (x3 := some (.tup (sD body))) (x4 := some (.tup (iD os))) (x5 := some (.ref 4)) (x6 := y6) (x7 := y7) (x8 := y8) (x9 := y9) (x10 := some (.tup (wD rows))) (l := (dh q6 ([.lst [], .lst (iD os)] ++ [.lst (wD rows)] ++ g1)).cs.length) (by rw [dh_len]; omega) 3 0 q6 ([.lst [], .lst (iD os)] ++ [.lst (wD rows)] ++ g1) none none none none
  have dl : forV (.one 6) b_law_2 5 (iD (rangeI bs.length)) (envW (some (.frl (s.map .int))) (some (.ref 1)) os bs body 4 none none none none) (dh q6 [.lst [], .lst (iD os), .lst []]) = _ := dl
  generalize hH9 : dh q6 ([.lst [], .lst (iD os)] ++ [.lst (wD rows)] ++ g1) = H9 at *
  generalize wD rows = WD at *
  have lm := dh_lim (q := q9) (r := r9)
  generalize dh q9 r9 = H10 at *
  unfold envW at dl
  unfold envL at ml
  generalize iD (rangeI bs.length) = RD at *
  generalize rangeD 0 1 vn = RV at *
  generalize rangeD 0 1 3 = R3 at *
  have dl : forV (.one 6) b_law_2 5 RD [some (.frl (s.map .int)), some (.ref 1), some (.tup (bD bs)), some (.tup (sD body)), some (.tup (iD os)), some (.ref 4), none, none, none, none, none, none, none, none, none, none] (dh q6 [.lst [], .lst (iD os), .lst []]) = .nxt [some (.frl (s.map .int)), some (.ref 1), some (.tup (bD bs)), some (.tup (sD body)), some (.tup (iD os)), some (.ref 4), y6, y7, y8, y9, none, none, none, none, none, none] H9 := dl
  generalize sD body = SB at *
  generalize sD ss = SS0 at *
  generalize sD us = SU at *
  generalize bD bs = BD at *
  generalize iD os = OS at *
  generalize (bs.length : Int) = BL at *
  generalize hSI : s.map D.int = SI at *
  refine ok_iff (h := H10.cut (max 0 (max 0 0))) ?_
  unfold f_law s_law
  simp [be, e1, e1', pr, setAll, e3, e3', hm, bo, tad, e5, e5', ra1, oc, lo1, tu1, le, rbs, dl, lv, tu2, ne, ra3, ml, lm, -lenF_tup, -range1, -tupleF_refO, -begin_ap]
end Lk42
theorem PySem.Challenge.cw_tensorcompiler_k42_lives_of_buffers_holds : PySem.Challenge.rw_tensorcompiler_k42_lives_of_buffers.Holds :=
  PySem.Challenge.cw_tensorcompiler_k42_lives_of_buffers_holds_of Lk42.pure_law
