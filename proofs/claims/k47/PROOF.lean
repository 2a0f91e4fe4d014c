import PyProof.Rows.All
import Wide.All
import OpenK.AllK
import Wide.FinOn
import HandS.ForMost
import HandS.Exc
import HandS.TryOnly
import HandS.ExcOwn
import HandS.WordsExc
import HandS.CallSlots
import HandS.Flow
import HandS.Wide
import HandS.Rev
import HandS.RevRange
import HandS.WideBits
import HandS.HeadHook2
import KE.KDictKeyed
import KE.KeyNested
import HandS.TupAny
import HandS.TupMul
import PyProof.StrOps2
import HandS.Deep
import HandS.Style
import KE.DatumOrd
import HandS.SortInts
import HandS.StrMore
import KE.GoesRaise
import HandS.RaiseMore
import HandS.HotCalls
import HandS.ExcIs
import HandS.IsInst
import HandS.Gcd
import HandS.More
import HandS.FStr
import HandS.Head0
import HandS.Head1
import HandS.Head2
import HandS.HeadEnd
import HandS.HeadHook3
import PySem.Challenge.RW_tensorcompiler_k47_code_texts
import HandS.Codes
import KE.IntTextLaws
set_option Elab.async false
set_option linter.all false
set_option maxRecDepth 100000
set_option maxHeartbeats 400000
/-! Dicts keyed by tuples that may be nested. -/
namespace Dy
open PySem PySem.Spec PyProof.Rows L2
/-! the value v is the key k -/
mutual
def KeyIs (K : PySem.W.Frag) (H : Hp) : NestedKey → V → Prop
  | .none, v => v = .non
  | .num i, v => v = .int i ∨ ∃ b : Bool, v = .bl b ∧ i = if b = true then 1 else 0
  | .text x, v => v = .str x
  | .tup ks, v => ∃ a xs, v = .ref a ∧ SqT K H a xs ∧ KeyAll K H ks xs
def KeyAll (K : PySem.W.Frag) (H : Hp) : List NestedKey → List V → Prop
  | [], xs => xs = []
  | k :: ks, xs => ∃ x r, xs = x :: r ∧ KeyIs K H k x ∧ KeyAll K H ks r
end
section
variable {X : Cx} {pins : List (Addr × Obj)} {σ : L2.St} {H : Hp} {s : Shared}
mutual
theorem keyIs_at (I : Inv X pins σ H s) : ∀ (k : NestedKey) (v : V) (u : Value), KeyIs X.K H k v → RelV v u → NestedIs s.heap k u
  | .none, v, u, h, r => by
    unfold KeyIs at h
    subst h
    obtain rfl : u = Value.none := r
    exact .none
  | .num i, v, u, h, r => by
    unfold KeyIs at h
    rcases h with rfl | ⟨b, rfl, e⟩
    · obtain ⟨t, rfl⟩ := (show ∃ t, u = Value.int i t from r)
      exact .int i t
    · obtain rfl : u = Value.bool b := r
      exact .bool e
  | .text x, v, u, h, r => by
    unfold KeyIs at h
    subst h
    obtain ⟨t, rfl⟩ := (show ∃ t, u = Value.str x t from r)
    exact .text x t
  | .tup ks, v, u, h, r => by
    unfold KeyIs at h
    obtain ⟨a, xs, rfl, sq, al⟩ := h
    obtain rfl : u = Value.ref a := r
    obtain ⟨its, rv, ⟨o, e, c, n, d⟩, _⟩ := I.tuple sq
    exact .tup e c d (keyAll_at I ks xs its al rv)
theorem keyAll_at (I : Inv X pins σ H s) : ∀ (ks : List NestedKey) (vs : List V) (us : List Value), KeyAll X.K H ks vs → Vals vs us → NestedAll s.heap ks us
  | [], vs, us, h, r => by
    unfold KeyAll at h
    subst h
    cases r
    exact .nil
  | k :: ks, vs, us, h, r => by
    unfold KeyAll at h
    obtain ⟨x, t, rfl, h1, h2⟩ := h
    cases r with
    | cons r1 r2 => exact .cons (keyIs_at I k _ _ h1 r1) (keyAll_at I ks _ _ h2 r2)
end
end
mutual
theorem KeyIs.mono {K : PySem.W.Frag} {H H' : Hp} (t : ∀ a xs, SqT K H a xs → SqT K H' a xs) : ∀ (k : NestedKey) (v : V), KeyIs K H k v → KeyIs K H' k v
  | .none, v, h => by unfold KeyIs at h ⊢; exact h
  | .num i, v, h => by unfold KeyIs at h ⊢; exact h
  | .text x, v, h => by unfold KeyIs at h ⊢; exact h
  | .tup ks, v, h => by
    unfold KeyIs at h ⊢
    obtain ⟨a, xs, e, sq, al⟩ := h
    exact ⟨a, xs, e, t _ _ sq, KeyAll.mono t ks xs al⟩
theorem KeyAll.mono {K : PySem.W.Frag} {H H' : Hp} (t : ∀ a xs, SqT K H a xs → SqT K H' a xs) : ∀ (ks : List NestedKey) (vs : List V), KeyAll K H ks vs → KeyAll K H' ks vs
  | [], vs, h => by unfold KeyAll at h ⊢; exact h
  | k :: ks, vs, h => by
    unfold KeyAll at h ⊢
    obtain ⟨x, r, e, h1, h2⟩ := h
    exact ⟨x, r, e, KeyIs.mono t k x h1, KeyAll.mono t ks r h2⟩
end
abbrev NE := NestedKey × Addr × V
def NRel (p : NE) (q : NestedKey × Addr × Value) : Prop := p.1 = q.1 ∧ p.2.1 = q.2.1 ∧ RelV p.2.2 q.2.2
/-- the dict's own object -/
def DNo (P : Program) (w : World) (a : Addr) (xs : List NE) : HO := .ext fun h => xs.length ≤ sizeLine ∧ (a == sysModules) = false ∧ ∃ ys, Paired NRel xs ys ∧
  (∃ o es ep, h.get? a = some o ∧ o.ExactDict ∧ o.data = .dict es ep ∧ es.toList = ys.map (entryOfKey (nestedKind P w))) ∧ (xs.map (·.1)).Nodup
def DNat (P : Program) (w : World) (K : PySem.W.Frag) (H : Hp) (a : Addr) (xs : List NE) : Prop := (H a = some (DNo P w a xs) ∨ (H a = some (.dK []) ∧ xs = [])) ∧ ∀ x ∈ xs, KeyIs K H x.1 (.ref x.2.1) ∧ x.1.depth ≤ 8
def atN (xs : List NE) (k : NestedKey) : Option V := (xs.find? fun x => decide (x.1 = k)).map (·.2.2)
def putN (xs : List NE) (k : NestedKey) (b : Addr) (v : V) : List NE := if (atN xs k).isSome then xs.map (fun x => if x.1 = k then (x.1, x.2.1, v) else x) else xs ++ [(k, b, v)]
theorem paired_keys {xs : List NE} {ys : List (NestedKey × Addr × Value)} (r : Paired NRel xs ys) : xs.map (·.1) = ys.map (·.1) := by
  induction r with
  | nil => rfl
  | cons h t ih => rw [List.map_cons, List.map_cons, ih, h.1]
theorem paired_len {α β : Type} {F : α → β → Prop} {xs : List α} {ys : List β} (r : Paired F xs ys) : xs.length = ys.length := by
  induction r with
  | nil => rfl
  | cons h t ih => rw [List.length_cons, List.length_cons, ih]
theorem paired_mem {xs : List NE} {ys : List (NestedKey × Addr × Value)} (r : Paired NRel xs ys) : ∀ y ∈ ys, ∃ x ∈ xs, x.1 = y.1 ∧ x.2.1 = y.2.1 := by
  induction r with
  | nil => exact fun y hy => nomatch hy
  | @cons a b l1 l2 h t ih =>
    intro y hy
    rcases List.mem_cons.mp hy with e | hy
    · subst e
      exact ⟨a, List.mem_cons_self, h.1, h.2.1⟩
    · obtain ⟨x, hx, e⟩ := ih y hy
      exact ⟨x, List.mem_cons_of_mem _ hx, e⟩
theorem paired_at {xs : List NE} {ys : List (NestedKey × Addr × Value)} (r : Paired NRel xs ys) (k : NestedKey) : RelO (atN xs k) ((atKey ys k).map (·.2)) := by
  induction r with
  | nil => trivial
  | @cons a b l1 l2 h t ih =>
    obtain ⟨h1, h2, h3⟩ := h
    unfold atN atKey
    rw [List.find?_cons, List.find?_cons]
    by_cases e : a.1 = k
    · have e' : b.1 = k := h1 ▸ e
      rw [decide_eq_true e, decide_eq_true e']
      exact h3
    · have e' : ¬ b.1 = k := fun z => e (h1.trans z)
      rw [decide_eq_false e, decide_eq_false e']
      exact ih
theorem relO_some {a : Option V} {b : Option Value} (r : RelO a b) : a.isSome = b.isSome := r.isSome_eq
theorem paired_put {xs : List NE} {ys : List (NestedKey × Addr × Value)} (r : Paired NRel xs ys) (k : NestedKey) {b : Addr} {v : V} {u : Value} (ru : RelV v u) : Paired NRel (putN xs k b v) (storedH ys k b u) := by
  have e : (atN xs k).isSome = (atKey ys k).isSome := by
    have := relO_some (paired_at r k)
    rw [Option.isSome_map] at this
    exact this
  unfold putN storedH
  rw [e]
  by_cases q : (atKey ys k).isSome = true
  · rw [if_pos q, if_pos q]
    clear e q
    induction r with
    | nil => exact .nil
    | @cons p q ps qs h t ih =>
      rw [List.map_cons, List.map_cons]
      refine .cons ?_ ih
      obtain ⟨h1, h2, h3⟩ := h
      unfold putAt
      by_cases e : p.1 = k
      · rw [if_pos e, if_pos (h1.symm.trans e)]; exact ⟨h1, h2, ru⟩
      · rw [if_neg e, if_neg (fun z => e (h1.trans z))]; exact ⟨h1, h2, h3⟩
  · rw [if_neg q, if_neg q]
    exact Paired.snoc r ⟨rfl, rfl, ru⟩
theorem putN_len (xs : List NE) (k : NestedKey) (b : Addr) (v : V) : (putN xs k b v).length ≤ xs.length + 1 := by
  unfold putN
  split
  · rw [List.length_map]; omega
  · rw [List.length_append]; exact Nat.le_refl _
section
variable {X : Cx} {pins : List (Addr × Obj)} {σ : L2.St} {H : Hp} {s : Shared} {a b : Addr} {xs : List NE} {k : NestedKey} {v : V} {u r : Value} {A : Around} {E : Value → Shared → Prop}
theorem dn_of (I : Inv X pins σ H s) (d : DNat X.prog X.w X.K H a xs) : xs.length ≤ sizeLine ∧ (a == sysModules) = false ∧ ∃ ys, Paired NRel xs ys ∧ s.heap.DictOfH (nestedKind X.prog X.w) a ys := by
  obtain ⟨d1, d2⟩ := d
  rcases d1 with e | ⟨e, rfl⟩
  · obtain ⟨⟨z, hd, ys, rel, ⟨o, es, ep, h1, h2, h3, h4⟩, nd⟩, _, _⟩ := (show ObjOk X.prog X.w H s.heap a (DNo X.prog X.w a xs) from I.hok a _ e)
    refine ⟨z, hd, ys, rel, o, es, ep, h1, h2, h3, h4, fun y hy => ?_, by rw [← paired_keys rel]; exact nd⟩
    obtain ⟨x, hx, e1, e2⟩ := paired_mem rel y hy
    obtain ⟨k1, k2⟩ := d2 x hx
    rw [← e1, ← e2]
    exact ⟨keyIs_at I _ _ _ k1 rfl, k2⟩
  · obtain ⟨z, hd, vs, rel, dd⟩ := dk_of I.hok e
    refine ⟨Nat.zero_le _, hd, [], .nil, ?_⟩
    obtain ⟨o, es, ep, h1, h2, h3, h4, h5, h6⟩ := dd
    cases rel
    refine ⟨o, es, ep, h1, h2, h3, ?_, (fun _ hx => nomatch hx), List.nodup_nil⟩
    have := h5
    cases hes : es.toList with
    | nil => rfl
    | cons _ _ => rw [hes] at this; cases this
theorem key_is (I : Inv X pins σ H s) (hk : KeyIs X.K H k (.ref b)) (h8 : k.depth ≤ 8) : (nestedKind X.prog X.w).is s.heap k b := ⟨keyIs_at I _ _ _ hk rfl, h8⟩
theorem n_getItem {Q : Value → Shared → Prop} (hu : A.units + 9 < cLine) (I : Inv X pins σ H s) (d : DNat X.prog X.w X.K H a xs) (hk : KeyIs X.K H k (.ref b)) (h8 : k.depth ≤ 8) (g : atN xs k = some v) (h : ∀ w' s', Inv X pins σ H s' → RelV v w' → Q w' s') :
    wpAny (model X.prog X.w) A (getItem (.ref a) (.ref b)) Q E s := by
  obtain ⟨z, hd, ys, rel, dd⟩ := dn_of I d
  obtain ⟨w', hw, rw'⟩ := RelO.some_of (v := v) (o := (atKey ys k).map (·.2)) (by rw [← g]; exact paired_at rel k)
  obtain ⟨p, hp, hp2⟩ := Option.map_eq_some_iff.mp hw
  refine wpAny_getItem_heap (by show A.units + 1 + 8 < cLine; omega) (key_is I hk h8) dd hp ?_
  rw [hp2]
  exact h w' _ (I.tok _) rw'
theorem n_in {Q : Value → Shared → Prop} (hu : A.units + 9 < cLine) (I : Inv X pins σ H s) (d : DNat X.prog X.w X.K H a xs) (hk : KeyIs X.K H k (.ref b)) (h8 : k.depth ≤ 8) (h : ∀ s', Inv X pins σ H s' → Q (.bool (atN xs k).isSome) s') :
    wpAny (model X.prog X.w) A (compareOp .In (.ref b) (.ref a)) Q E s := by
  obtain ⟨z, hd, ys, rel, dd⟩ := dn_of I d
  refine wpAny_in_heap (by show A.units + 1 + 8 < cLine; omega) (key_is I hk h8) hd dd ?_
  have q := relO_some (paired_at rel k)
  rw [Option.isSome_map] at q
  rw [← q]
  exact h _ (I.tok _)
theorem n_notIn {Q : Value → Shared → Prop} (hu : A.units + 9 < cLine) (I : Inv X pins σ H s) (d : DNat X.prog X.w X.K H a xs) (hk : KeyIs X.K H k (.ref b)) (h8 : k.depth ≤ 8) (h : ∀ s', Inv X pins σ H s' → Q (.bool (!(atN xs k).isSome)) s') :
    wpAny (model X.prog X.w) A (compareOp .NotIn (.ref b) (.ref a)) Q E s := by
  obtain ⟨z, hd, ys, rel, dd⟩ := dn_of I d
  refine wpAny_notIn_heap (by show A.units + 1 + 8 < cLine; omega) (key_is I hk h8) hd dd ?_
  have q := relO_some (paired_at rel k)
  rw [Option.isSome_map] at q
  rw [← q]
  exact h _ (I.tok _)
theorem n_setItem {Q : Unit → Shared → Prop} (hu : A.units + 9 < cLine) (I : Inv X pins σ H s) (d : DNat X.prog X.w X.K H a xs) (hk : KeyIs X.K H k (.ref b)) (h8 : k.depth ≤ 8) (hl : xs.length < sizeLine) (rv : RelV v r) (h : ∀ s', Inv X pins σ (upd H a (DNo X.prog X.w a (putN xs k b v))) s' → Q () s') :
    wpAny (model X.prog X.w) A (setItem (.ref a) (.ref b) r) Q E s := by
  obtain ⟨z, hd, ys, rel, dd⟩ := dn_of I d
  have hz : ys.length ≤ sizeLine := by rw [← paired_len rel]; exact z
  have hl2 : (putN xs k b v).length ≤ sizeLine := by have := putN_len xs k b v; omega
  refine wpAny_setItem_heap (hsz := hz) (by show A.units + 1 + 8 < cLine; omega) (key_is I hk h8) dd fun h' dd' hs => h _ ?_
  obtain ⟨q, es, ep, hq, h2, h3, h4, _, h5⟩ := dd'
  have mu : Mut (H a) := by
    rcases d.1 with e | ⟨e, _⟩ <;> rw [e] <;> exact True.intro
  have rel' := paired_put rel k (b := b) rv
  refine d_write I mu hs ⟨q, hq⟩ ⟨⟨hl2, hd, _, rel', ⟨q, es, ep, hq, h2, h3, h4⟩, by rw [paired_keys rel']; exact h5⟩, ⟨q, hq⟩, fun h1 h2' z k1 => ?_⟩
  obtain ⟨z1, z2, ys', r', ⟨o, es', ep', g1, g2, g3, g4⟩, nd⟩ := z
  exact ⟨z1, z2, ys', r', ⟨o, es', ep', k1 o g1, g2, g3, g4⟩, nd⟩
end
end Dy

/-! Values without a heap, cells, and how they lie in the abstract heap. -/
namespace Dy
open PySem PySem.Spec PyProof.Rows L2

inductive D where
  | non | bl (b : Bool) | int (i : Int) | str (x : Str) | tup (ds : List D) | frl (ds : List D) | ref (n : Nat) | ty (n : String) | glb (x : Str)

mutual
/-- one more than the greatest cell's number that is named -/
def D.mr : D → Nat
  | .tup ds => mrL ds
  | .frl ds => mrL ds
  | .ref n => n + 1
  | .non => 0
  | .bl _ => 0
  | .int _ => 0
  | .str _ => 0
  | .ty _ => 0
  | .glb _ => 0
def mrL : List D → Nat
  | [] => 0
  | d :: ds => max d.mr (mrL ds)
end
def mrF : List (Str × D) → Nat
  | [] => 0
  | p :: r => max p.2.mr (mrF r)
def mrK : List (Key × D) → Nat
  | [] => 0
  | p :: r => max p.2.mr (mrK r)

inductive Cell where
  | lst (ds : List D)
  | inst (c : Str) (fs : List (Str × D))
  | dict (kvs : List (Key × D))
  /-- .. keyed by tuples -/
  | dN (kvs : List (NestedKey × D))
def mrN : List (NestedKey × D) → Nat
  | [] => 0
  | p :: r => max p.2.mr (mrN r)
def Cell.mr : Cell → Nat
  | .lst ds => mrL ds
  | .inst _ fs => mrF fs
  | .dict kvs => mrK kvs
  | .dN kvs => mrN kvs

structure PH where
  cs : List Cell
  lim : Nat

structure Wf (h : PH) : Prop where
  le : h.lim ≤ h.cs.length
  at_ : ∀ n c, h.cs[n]? = some c → c.mr ≤ max n h.lim

/-! ### how a value lies -/
/-- the written part; the slot and the address of the exception that an except suite holds -/
structure KX where
  K : PySem.W.Frag
  hx : Option (Nat × Addr)
  pw : Program × World
instance : Coe KX PySem.W.Frag := ⟨KX.K⟩
def KX.J (K : KX) (σ : L2.St) : Prop := match K.hx with
  | none => True
  | some (i, a) => σ[i]? = some (some (.ref a))
def KX.can (K : KX) (i : Nat) : Prop := match K.hx with
  | none => True
  | some (j, _) => i ≠ j
theorem KX.J_set {K : KX} {σ : L2.St} {i : Nat} {o : Option V} (c : K.can i) (h : K.J σ) : K.J (σ.set i o) := by
  obtain ⟨F, hx, pw⟩ := K
  cases hx with
  | none => trivial
  | some p =>
    obtain ⟨j, a⟩ := p
    have c' : i ≠ j := c
    have h' : σ[j]? = some (some (.ref a)) := h
    show (σ.set i o)[j]? = _
    rw [List.getElem?_set_ne c']; exact h'
theorem KX.J_wipe {K : KX} {σ : L2.St} : ∀ {vs : List Nat}, (∀ i ∈ vs, K.can i) → K.J σ → K.J (wipe σ vs)
  | [], _, h => h
  | v :: vs, c, h => KX.J_set (c v List.mem_cons_self) (KX.J_wipe (fun i hi => c i (List.mem_cons_of_mem _ hi)) h)
/-- a list that is only read -/
def FrzL (K : PySem.W.Frag) (H : Hp) (a : Addr) (xs : List V) : Prop :=
  (∃ o, H a = some (.frz o (.lst xs))) ∨ ∃ (o : Obj) (its : Array Value) (n : Nat), K.lookup a = some o ∧ o.cls = .type "list" ∧ o.dict = none ∧ o.data = .seq its n ∧ its.size ≤ sizeLine ∧ Vals xs its.toList
theorem FrzL.sq {K : PySem.W.Frag} {H : Hp} {a : Addr} {xs : List V} (h : FrzL K H a xs) : SqL K H a xs := by
  rcases h with h | h
  · exact .inl (.inr h)
  · exact .inr h
section
variable (K : KX) (ρ : List Addr) (H : Hp)
mutual
def Is : D → V → Prop
  | .non, v => v = .non
  | .bl b, v => v = .bl b
  | .int i, v => v = .int i
  | .str x, v => v = .str x
  | .tup ds, v => ∃ a xs, v = .ref a ∧ SqT K H a xs ∧ IsL ds xs
  | .frl ds, v => ∃ a xs, v = .ref a ∧ FrzL K H a xs ∧ IsL ds xs
  | .ref n, v => ∃ a, ρ[n]? = some a ∧ v = .ref a
  | .ty n, v => v = .ty n
  | .glb x, v => v = .ref (He.ga K x)
def IsL : List D → List V → Prop
  | [], xs => xs = []
  | d :: ds, xs => ∃ x r, xs = x :: r ∧ Is d x ∧ IsL ds r
end
def IsF : List (Str × D) → List (Str × V) → Prop
  | [], xs => xs = []
  | p :: r, xs => ∃ v s, xs = (p.1, v) :: s ∧ Is K ρ H p.2 v ∧ IsF r s
end

theorem IsL.length {K : KX} {ρ : List Addr} {H : Hp} : ∀ {ds : List D} {xs : List V}, IsL K ρ H ds xs → xs.length = ds.length
  | [], xs, h => by unfold IsL at h; subst h; rfl
  | d :: ds, xs, h => by
    unfold IsL at h
    obtain ⟨x, r, rfl, _, h2⟩ := h
    simp [IsL.length h2]

def TupsKeep (H H' : Hp) : Prop := (∀ a xs, H a = some (.tup xs) → H' a = some (.tup xs)) ∧ (∀ a o u, H a = some (.frz o u) → H' a = some (.frz o u))

theorem SqT.keep {K : PySem.W.Frag} {H H' : Hp} {a : Addr} {xs : List V} (k : TupsKeep H H') (h : SqT K H a xs) : SqT K H' a xs := by
  rcases h with (h | ⟨o, h⟩) | h
  · exact .inl (.inl (k.1 _ _ h))
  · exact .inl (.inr ⟨o, k.2 _ _ _ h⟩)
  · exact .inr h
theorem FrzL.keep {K : PySem.W.Frag} {H H' : Hp} {a : Addr} {xs : List V} (k : TupsKeep H H') (h : FrzL K H a xs) : FrzL K H' a xs := by
  rcases h with ⟨o, h⟩ | h
  · exact .inl ⟨o, k.2 _ _ _ h⟩
  · exact .inr h

mutual
theorem Is.mono {K : KX} {ρ ρ' : List Addr} {H H' : Hp} (k : TupsKeep H H') (n : Nat) (p : ∀ i, i < n → ∀ a, ρ[i]? = some a → ρ'[i]? = some a) : ∀ (d : D) (v : V), d.mr ≤ n → Is K ρ H d v → Is K ρ' H' d v
  | .non, v, _, h => by unfold Is at h ⊢; exact h
  | .bl b, v, _, h => by unfold Is at h ⊢; exact h
  | .int b, v, _, h => by unfold Is at h ⊢; exact h
  | .str b, v, _, h => by unfold Is at h ⊢; exact h
  | .ty b, v, _, h => by unfold Is at h ⊢; exact h
  | .glb b, v, _, h => by unfold Is at h ⊢; exact h
  | .ref m, v, l, h => by
    unfold Is at h ⊢
    unfold D.mr at l
    obtain ⟨a, e, r⟩ := h
    exact ⟨a, p m l a e, r⟩
  | .tup ds, v, l, h => by
    unfold Is at h ⊢
    unfold D.mr at l
    obtain ⟨a, xs, e, s, r⟩ := h
    exact ⟨a, xs, e, SqT.keep k s, IsL.mono k n p ds xs l r⟩
  | .frl ds, v, l, h => by
    unfold Is at h ⊢
    unfold D.mr at l
    obtain ⟨a, xs, e, s, r⟩ := h
    exact ⟨a, xs, e, FrzL.keep k s, IsL.mono k n p ds xs l r⟩
theorem IsL.mono {K : KX} {ρ ρ' : List Addr} {H H' : Hp} (k : TupsKeep H H') (n : Nat) (p : ∀ i, i < n → ∀ a, ρ[i]? = some a → ρ'[i]? = some a) : ∀ (ds : List D) (xs : List V), mrL ds ≤ n → IsL K ρ H ds xs → IsL K ρ' H' ds xs
  | [], xs, _, h => by unfold IsL at h ⊢; exact h
  | d :: ds, xs, l, h => by
    unfold IsL at h ⊢
    unfold mrL at l
    obtain ⟨x, r, e, h1, h2⟩ := h
    exact ⟨x, r, e, Is.mono k n p d x (by omega) h1, IsL.mono k n p ds r (by omega) h2⟩
end
theorem IsF.mono {K : KX} {ρ ρ' : List Addr} {H H' : Hp} (k : TupsKeep H H') (n : Nat) (p : ∀ i, i < n → ∀ a, ρ[i]? = some a → ρ'[i]? = some a) : ∀ (ds : List (Str × D)) (xs : List (Str × V)), mrF ds ≤ n → IsF K ρ H ds xs → IsF K ρ' H' ds xs
  | [], xs, _, h => by unfold IsF at h ⊢; exact h
  | d :: ds, xs, l, h => by
    unfold IsF at h ⊢
    unfold mrF at l
    obtain ⟨x, r, e, h1, h2⟩ := h
    exact ⟨x, r, e, Is.mono k n p d.2 x (by omega) h1, IsF.mono k n p ds r (by omega) h2⟩

/-- a dict's pairs -/
def IsK (K : KX) (ρ : List Addr) (H : Hp) : List (Key × D) → List (Key × V) → Prop
  | [], xs => xs = []
  | p :: r, xs => ∃ v s, xs = (p.1, v) :: s ∧ Is K ρ H p.2 v ∧ IsK K ρ H r s
theorem IsK.mono {K : KX} {ρ ρ' : List Addr} {H H' : Hp} (k : TupsKeep H H') (n : Nat) (p : ∀ i, i < n → ∀ a, ρ[i]? = some a → ρ'[i]? = some a) : ∀ (ds : List (Key × D)) (xs : List (Key × V)), mrK ds ≤ n → IsK K ρ H ds xs → IsK K ρ' H' ds xs
  | [], xs, _, h => by unfold IsK at h ⊢; exact h
  | d :: ds, xs, l, h => by
    unfold IsK at h ⊢
    unfold mrK at l
    obtain ⟨x, r, e, h1, h2⟩ := h
    exact ⟨x, r, e, Is.mono k n p d.2 x (by omega) h1, IsK.mono k n p ds r (by omega) h2⟩
def IsN (K : KX) (ρ : List Addr) (H : Hp) : List (NestedKey × D) → List NE → Prop
  | [], xs => xs = []
  | p :: r, xs => ∃ b v s, xs = (p.1, b, v) :: s ∧ Is K ρ H p.2 v ∧ IsN K ρ H r s
theorem IsN.mono {K : KX} {ρ ρ' : List Addr} {H H' : Hp} (k : TupsKeep H H') (n : Nat) (p : ∀ i, i < n → ∀ a, ρ[i]? = some a → ρ'[i]? = some a) : ∀ (ds : List (NestedKey × D)) (xs : List NE), mrN ds ≤ n → IsN K ρ H ds xs → IsN K ρ' H' ds xs
  | [], xs, _, h => by unfold IsN at h ⊢; exact h
  | d :: ds, xs, l, h => by
    unfold IsN at h ⊢
    unfold mrN at l
    obtain ⟨b, x, r, e, h1, h2⟩ := h
    exact ⟨b, x, r, e, Is.mono k n p d.2 x (by omega) h1, IsN.mono k n p ds r (by omega) h2⟩
def NKeys (K : PySem.W.Frag) (H : Hp) (xs : List NE) : Prop := ∀ x ∈ xs, KeyIs K H x.1 (.ref x.2.1) ∧ x.1.depth ≤ 8
theorem NKeys.keep {K : PySem.W.Frag} {H H' : Hp} {xs : List NE} (k : TupsKeep H H') (h : NKeys K H xs) : NKeys K H' xs := fun x hx => ⟨KeyIs.mono (fun _ _ q => SqT.keep k q) _ _ (h x hx).1, (h x hx).2⟩
/-- a cell at an address -/
def CellIs (K : KX) (ρ : List Addr) (H : Hp) (a : Addr) : Cell → Prop
  | .lst ds => ∃ xs, H a = some (.lst xs) ∧ IsL K ρ H ds xs
  | .inst c fs => ∃ dx vs, H a = some (.ins (He.ga K c) dx vs) ∧ IsF K ρ H fs vs
  | .dict kvs => ∃ xs, H a = some (.dK xs) ∧ IsK K ρ H kvs xs
  | .dN kvs => ∃ xs, H a = some (DNo K.pw.1 K.pw.2 a xs) ∧ NKeys K H xs ∧ IsN K ρ H kvs xs

structure HRel (K : KX) (ρ : List Addr) (H : Hp) (cs : List Cell) : Prop where
  len : ρ.length = cs.length
  nd : ρ.Nodup
  at_ : ∀ (n : Nat) (c : Cell) (a : Addr), cs[n]? = some c → ρ[n]? = some a → CellIs K ρ H a c

abbrev Env := List (Option D)
structure EnvIs (K : KX) (ρ : List Addr) (H : Hp) (env : Env) (σ : L2.St) : Prop where
  len : env.length = σ.length
  at_ : ∀ (i : Nat) (d : D), env[i]? = some (some d) → ∃ v, σ[i]? = some (some v) ∧ Is K ρ H d v
  inv : K.J σ
def EnvWf (env : Env) (n : Nat) : Prop := ∀ (i : Nat) (d : D), env[i]? = some (some d) → d.mr ≤ n

/-- the state beyond (ρ, H): cells come beside; what is no cell stands as it stood -/
structure Ext (K : KX) (ρ : List Addr) (H : Hp) (h' : PH) (ρ' : List Addr) (H' : Hp) : Prop where
  pre : ∃ m, ρ' = ρ ++ m
  fresh : ∀ a ∈ ρ', a ∉ ρ → H a = none
  frame : ∀ a o, a ∉ ρ → H a = some o → H' a = some o
  kept : TupsKeep H H'
  rel : HRel K ρ' H' h'.cs
  wf : Wf h'

theorem TupsKeep.refl (H : Hp) : TupsKeep H H := ⟨fun _ _ h => h, fun _ _ _ h => h⟩
theorem TupsKeep.trans {H H1 H2 : Hp} (a : TupsKeep H H1) (b : TupsKeep H1 H2) : TupsKeep H H2 := ⟨fun x xs h => b.1 x xs (a.1 x xs h), fun x o u h => b.2 x o u (a.2 x o u h)⟩
theorem Ext.refl {K : KX} {ρ : List Addr} {H : Hp} {h : PH} (r : HRel K ρ H h.cs) (w : Wf h) : Ext K ρ H h ρ H :=
  ⟨⟨[], by simp⟩, fun a h1 h2 => absurd h1 h2, fun _ _ _ h => h, TupsKeep.refl H, r, w⟩
theorem Ext.trans {K : KX} {ρ ρ1 ρ2 : List Addr} {H H1 H2 : Hp} {h1 h2 : PH} (a : Ext K ρ H h1 ρ1 H1) (b : Ext K ρ1 H1 h2 ρ2 H2) : Ext K ρ H h2 ρ2 H2 := by
  obtain ⟨m1, e1⟩ := a.pre
  obtain ⟨m2, e2⟩ := b.pre
  refine ⟨⟨m1 ++ m2, by rw [e2, e1, List.append_assoc]⟩, fun x hx hn => ?_, fun x o hn hx => ?_, a.kept.trans b.kept, b.rel, b.wf⟩
  · by_cases h : x ∈ ρ1
    · exact a.fresh x h hn
    · have z := b.fresh x hx h
      cases q : H x with
      | none => rfl
      | some o => rw [a.frame x o hn q] at z; cases z
  · have z := a.frame x o hn hx
    refine b.frame x o (fun h => ?_) z
    have y := a.fresh x h hn
    rw [y] at hx; cases hx
theorem Ext.at_ {K : KX} {ρ ρ1 : List Addr} {H H1 : Hp} {h1 : PH} (a : Ext K ρ H h1 ρ1 H1) : ∀ i, i < ρ.length → ∀ x, ρ[i]? = some x → ρ1[i]? = some x := by
  obtain ⟨m, rfl⟩ := a.pre
  intro i hi x h
  rw [List.getElem?_append_left hi]; exact h
theorem Ext.le {K : KX} {ρ ρ1 : List Addr} {H H1 : Hp} {h1 : PH} (a : Ext K ρ H h1 ρ1 H1) : ρ.length ≤ h1.cs.length := by
  obtain ⟨m, e⟩ := a.pre
  rw [← a.rel.len, e, List.length_append]; omega
theorem Ext.is {K : KX} {ρ ρ1 : List Addr} {H H1 : Hp} {h1 : PH} (a : Ext K ρ H h1 ρ1 H1) {d : D} {v : V} (l : d.mr ≤ ρ.length) (h : Is K ρ H d v) : Is K ρ1 H1 d v := Is.mono a.kept _ a.at_ d v l h
theorem Ext.isL {K : KX} {ρ ρ1 : List Addr} {H H1 : Hp} {h1 : PH} (a : Ext K ρ H h1 ρ1 H1) {ds : List D} {xs : List V} (l : mrL ds ≤ ρ.length) (h : IsL K ρ H ds xs) : IsL K ρ1 H1 ds xs := IsL.mono a.kept _ a.at_ ds xs l h
theorem Ext.envIs {K : KX} {ρ ρ1 : List Addr} {H H1 : Hp} {h1 : PH} (a : Ext K ρ H h1 ρ1 H1) {env : Env} {σ : L2.St} (w : EnvWf env ρ.length) (h : EnvIs K ρ H env σ) : EnvIs K ρ1 H1 env σ :=
  ⟨h.len, fun i d e => let ⟨v, e1, e2⟩ := h.at_ i d e; ⟨v, e1, a.is (w i d e) e2⟩, h.inv⟩
theorem EnvWf.mono {env : Env} {n m : Nat} (w : EnvWf env n) (h : n ≤ m) : EnvWf env m := fun i d e => Nat.le_trans (w i d e) h

/-- the whole relation -/
structure Rel (K : KX) (ρ : List Addr) (env : Env) (h : PH) (σ : L2.St) (H : Hp) : Prop where
  eis : EnvIs K ρ H env σ
  heap : HRel K ρ H h.cs
  wf : Wf h
  ewf : EnvWf env h.cs.length
theorem Rel.len {K : KX} {ρ : List Addr} {env : Env} {h : PH} {σ : L2.St} {H : Hp} (r : Rel K ρ env h σ H) : ρ.length = h.cs.length := r.heap.len
theorem Rel.ext {K : KX} {ρ ρ1 : List Addr} {env : Env} {h h1 : PH} {σ : L2.St} {H H1 : Hp} (r : Rel K ρ env h σ H) (a : Ext K ρ H h1 ρ1 H1) : Rel K ρ1 env h1 σ H1 :=
  ⟨a.envIs (by rw [r.len]; exact r.ewf) r.eis, a.rel, a.wf, r.ewf.mono (by have := a.le; rw [r.len] at this; exact this)⟩
theorem Rel.refl {K : KX} {ρ : List Addr} {env : Env} {h : PH} {σ : L2.St} {H : Hp} (r : Rel K ρ env h σ H) : Ext K ρ H h ρ H := Ext.refl r.heap r.wf

/-! ### new cells, written cells, cells dropped -/
section
variable {K : KX} {ρ : List Addr} {H : Hp} {h : PH}
theorem CellIs.mono {ρ' : List Addr} {H' : Hp} {a : Addr} {c : Cell} (k : TupsKeep H H') (n : Nat) (p : ∀ i, i < n → ∀ a, ρ[i]? = some a → ρ'[i]? = some a) (l : c.mr ≤ n) (e : H' a = H a) (x : CellIs K ρ H a c) : CellIs K ρ' H' a c := by
  cases c with
  | lst ds =>
    obtain ⟨xs, e1, e2⟩ := x
    exact ⟨xs, e.trans e1, IsL.mono k n p ds xs l e2⟩
  | inst c fs =>
    obtain ⟨dx, vs, e1, e2⟩ := x
    exact ⟨dx, vs, e.trans e1, IsF.mono k n p fs vs l e2⟩
  | dict kvs =>
    obtain ⟨xs, e1, e2⟩ := x
    exact ⟨xs, e.trans e1, IsK.mono k n p kvs xs l e2⟩
  | dN kvs =>
    obtain ⟨xs, e1, e2, e3⟩ := x
    exact ⟨xs, e.trans e1, NKeys.keep k e2, IsN.mono k n p kvs xs l e3⟩

/-- what cells lie at: tracked, no tuple, nothing known -/
theorem CellIs.mut {a : Addr} {c : Cell} (x : CellIs K ρ H a c) : ∃ o, H a = some o ∧ (∀ xs, o ≠ .tup xs) ∧ ∀ ob u, o ≠ .frz ob u := by
  cases c with
  | lst ds => obtain ⟨ys, e, _⟩ := x; exact ⟨_, e, (fun _ z => by cases z), (fun _ _ z => by cases z)⟩
  | inst c fs => obtain ⟨dx, vs, e, _⟩ := x; exact ⟨_, e, (fun _ z => by cases z), (fun _ _ z => by cases z)⟩
  | dict kvs => obtain ⟨ys, e, _⟩ := x; exact ⟨_, e, (fun _ z => by cases z), (fun _ _ z => by cases z)⟩
  | dN kvs => obtain ⟨ys, e, _⟩ := x; exact ⟨_, e, (fun _ z => by cases z), (fun _ _ z => by cases z)⟩
theorem HRel.mut (r : HRel K ρ H h.cs) {a : Addr} (m : a ∈ ρ) : ∃ o, H a = some o ∧ (∀ xs, o ≠ .tup xs) ∧ ∀ ob u, o ≠ .frz ob u := by
  obtain ⟨n, hn, e⟩ := List.getElem_of_mem m
  have hc : n < h.cs.length := by rw [← r.len]; exact hn
  exact (r.at_ n h.cs[n] a (List.getElem?_eq_getElem hc) (by rw [List.getElem?_eq_getElem hn, e])).mut
theorem HRel.fresh (r : HRel K ρ H h.cs) {p : Addr} (np : H p = none) : p ∉ ρ := fun m => by
  obtain ⟨o, e, _⟩ := r.mut m
  rw [np] at e; cases e
theorem keep_new {p : Addr} {o : HO} (np : H p = none) : TupsKeep H (upd H p o) :=
  ⟨fun a xs e => by rw [upd_ne (ne_of_none e np)]; exact e, fun a ob u e => by rw [upd_ne (ne_of_none e np)]; exact e⟩
theorem keep_old {p : Addr} {o u : HO} (hp : H p = some u) (nt : ∀ xs, u ≠ .tup xs) (nf : ∀ ob v, u ≠ .frz ob v) : TupsKeep H (upd H p o) :=
  ⟨fun a xs e => by rw [upd_ne (fun z => by subst z; rw [hp] at e; exact nt xs (Option.some.inj e))]; exact e,
   fun a ob v e => by rw [upd_ne (fun z => by subst z; rw [hp] at e; exact nf ob v (Option.some.inj e))]; exact e⟩

/-- a new object that is no cell -/
theorem Ext.obj (r : HRel K ρ H h.cs) (w : Wf h) {p : Addr} {o : HO} (np : H p = none) : Ext K ρ H h ρ (upd H p o) := by
  have nf := r.fresh (h := h) np
  refine ⟨⟨[], by simp⟩, fun a h1 h2 => absurd h1 h2, fun a u _ e => by rw [upd_ne (ne_of_none e np)]; exact e, keep_new np, ⟨r.len, r.nd, fun n c a e1 e2 => ?_⟩, w⟩
  have hm : a ∈ ρ := List.mem_of_getElem? e2
  have ha : a ≠ p := fun z => nf (z ▸ hm)
  exact CellIs.mono (ρ := ρ) (H := H) (keep_new np) (max n h.lim) (fun i _ x hx => hx) (w.at_ n c e1) (upd_ne ha) (r.at_ n c a e1 e2)

/-- the state with one more cell -/
def PH.push (h : PH) (c : Cell) : PH := ⟨h.cs ++ [c], h.lim⟩
theorem Wf.push (w : Wf h) {c : Cell} (l : c.mr ≤ h.cs.length) : Wf (h.push c) := by
  refine ⟨by have := w.le; show h.lim ≤ (h.cs ++ [c]).length; rw [List.length_append]; omega, fun n d e => ?_⟩
  have e : (h.cs ++ [c])[n]? = some d := e
  by_cases hn : n < h.cs.length
  · rw [List.getElem?_append_left hn] at e
    exact w.at_ n d e
  · rw [List.getElem?_append_right (by omega)] at e
    have hz : n - h.cs.length = 0 := by
      rcases Nat.eq_zero_or_pos (n - h.cs.length) with z | z
      · exact z
      · rw [List.getElem?_eq_none (by simp; omega)] at e; cases e
    rw [hz] at e
    have e' : c = d := by simpa using e
    subst e'
    show c.mr ≤ max n h.lim
    omega
/-- a new cell at a new address p -/
theorem Ext.push (r : HRel K ρ H h.cs) (w : Wf h) {p : Addr} {o : HO} {c : Cell} (np : H p = none) (l : c.mr ≤ h.cs.length)
    (ci : ∀ H', H' p = some o → TupsKeep H H' → CellIs K (ρ ++ [p]) H' p c) : Ext K ρ H (h.push c) (ρ ++ [p]) (upd H p o) := by
  have nf := r.fresh (h := h) np
  refine ⟨⟨[p], rfl⟩, fun a h1 h2 => ?_, fun a u _ e => by rw [upd_ne (ne_of_none e np)]; exact e, keep_new np, ⟨?_, ?_, fun n d a e1 e2 => ?_⟩, w.push l⟩
  · rcases List.mem_append.mp h1 with z | z
    · exact absurd z h2
    · have : a = p := by simpa using z
      rw [this]; exact np
  · show (ρ ++ [p]).length = (h.cs ++ [c]).length
    rw [List.length_append, List.length_append, r.len]; rfl
  · refine List.nodup_append.mpr ⟨r.nd, by simp, fun a ha b hb e => ?_⟩
    have : b = p := by simpa using hb
    subst this
    exact nf (e ▸ ha)
  · have e1 : (h.cs ++ [c])[n]? = some d := e1
    by_cases hn : n < h.cs.length
    · rw [List.getElem?_append_left hn] at e1
      rw [List.getElem?_append_left (by rw [r.len]; exact hn)] at e2
      have hm : a ∈ ρ := List.mem_of_getElem? e2
      have ha : a ≠ p := fun z => nf (z ▸ hm)
      refine CellIs.mono (ρ := ρ) (H := H) (keep_new np) (max n h.lim) (fun i _ x hx => ?_) (w.at_ n d e1) (upd_ne ha) (r.at_ n d a e1 e2)
      have : i < ρ.length := (List.getElem?_eq_some_iff.mp hx).1
      rw [List.getElem?_append_left this]; exact hx
    · rw [List.getElem?_append_right (by omega)] at e1
      have hz : n = h.cs.length := by
        rcases Nat.eq_zero_or_pos (n - h.cs.length) with z | z
        · omega
        · rw [List.getElem?_eq_none (by simp; omega)] at e1; cases e1
      subst hz
      rw [← r.len, List.getElem?_append_right (Nat.le_refl _), Nat.sub_self] at e2
      rw [Nat.sub_self] at e1
      have ea : p = a := by simpa using e2
      have ec : c = d := by simpa using e1
      subst ea; subst ec
      exact ci _ upd_same (keep_new np)

/-- the state with a cell written -/
def PH.put (h : PH) (n : Nat) (c : Cell) : PH := ⟨h.cs.set n c, if c.mr ≤ n then h.lim else max h.lim c.mr⟩
theorem Wf.put (w : Wf h) {n : Nat} {c : Cell} (l : c.mr ≤ h.cs.length) : Wf (h.put n c) := by
  refine ⟨?_, fun m d e => ?_⟩
  · show (if c.mr ≤ n then h.lim else max h.lim c.mr) ≤ (h.cs.set n c).length
    rw [List.length_set]
    have := w.le
    split <;> omega
  · have e : (h.cs.set n c)[m]? = some d := e
    show d.mr ≤ max m (if c.mr ≤ n then h.lim else max h.lim c.mr)
    by_cases hm : n = m
    · subst hm
      by_cases hn : n < h.cs.length
      · rw [List.getElem?_set_self hn] at e
        have : c = d := Option.some.inj e
        subst this
        split <;> omega
      · rw [List.getElem?_eq_none (by rw [List.length_set]; omega)] at e; cases e
    · rw [List.getElem?_set_ne hm] at e
      have := w.at_ m d e
      split <;> omega
theorem Ext.put (r : HRel K ρ H h.cs) (w : Wf h) {n : Nat} {p : Addr} {o : HO} {c : Cell} (hp : ρ[n]? = some p) (l : c.mr ≤ h.cs.length)
    (ci : ∀ H', H' p = some o → TupsKeep H H' → CellIs K ρ H' p c) : Ext K ρ H (h.put n c) ρ (upd H p o) := by
  have hm : p ∈ ρ := List.mem_of_getElem? hp
  obtain ⟨u, hu, nt, nf⟩ := r.mut hm
  have k : TupsKeep H (upd H p o) := keep_old hu nt nf
  refine ⟨⟨[], by simp⟩, fun a h1 h2 => absurd h1 h2, fun a v na e => by rw [upd_ne (fun z : a = p => na (by rw [z]; exact hm))]; exact e, k, ⟨?_, r.nd, fun m d a e1 e2 => ?_⟩, w.put l⟩
  · show ρ.length = (h.cs.set n c).length
    rw [List.length_set, r.len]
  · have e1 : (h.cs.set n c)[m]? = some d := e1
    have hn : n < h.cs.length := by rw [← r.len]; exact (List.getElem?_eq_some_iff.mp hp).1
    by_cases hmn : n = m
    · subst hmn
      rw [List.getElem?_set_self hn] at e1
      have ec : c = d := Option.some.inj e1
      rw [hp] at e2
      have ea : p = a := Option.some.inj e2
      subst ec; subst ea
      exact ci _ upd_same k
    · rw [List.getElem?_set_ne hmn] at e1
      have ha : a ≠ p := fun z => by
        subst z
        obtain ⟨h1, g1⟩ := List.getElem?_eq_some_iff.mp hp
        obtain ⟨h2, g2⟩ := List.getElem?_eq_some_iff.mp e2
        exact hmn ((List.getElem_inj r.nd).mp (g1.trans g2.symm))
      exact CellIs.mono (ρ := ρ) (H := H) k (max m h.lim) (fun i _ x hx => hx) (w.at_ m d e1) (upd_ne ha) (r.at_ m d a e1 e2)

/-- the state without its last cells -/
def PH.cut (h : PH) (n : Nat) : PH := ⟨h.cs.take n, h.lim⟩
theorem Ext.cut {ρ1 : List Addr} {H1 : Hp} {h1 : PH} (x : Ext K ρ H h1 ρ1 H1) {n : Nat} (l : ρ.length ≤ n) (hl : h1.lim ≤ n) : Ext K ρ H (h1.cut n) (ρ1.take n) H1 := by
  obtain ⟨m, e⟩ := x.pre
  refine ⟨⟨m.take (n - ρ.length), ?_⟩, fun a h1 h2 => x.fresh a (List.mem_of_mem_take h1) h2, x.frame, x.kept, ⟨?_, x.rel.nd.sublist (List.take_sublist _ _), fun i c a e1 e2 => ?_⟩, ⟨?_, fun i c e1 => ?_⟩⟩
  · rw [e, List.take_append, List.take_of_length_le l]
  · show (ρ1.take n).length = (h1.cs.take n).length
    rw [List.length_take, List.length_take, x.rel.len]
  · have e1 : (h1.cs.take n)[i]? = some c := e1
    have hi : i < n := by
      have := (List.getElem?_eq_some_iff.mp e1).1
      rw [List.length_take] at this; omega
    rw [List.getElem?_take_of_lt hi] at e1 e2
    refine CellIs.mono (TupsKeep.refl _) (max i h1.lim) (fun j hj b hb => ?_) (x.wf.at_ i c e1) rfl (x.rel.at_ i c a e1 e2)
    rw [List.getElem?_take_of_lt (by omega)]; exact hb
  · show h1.lim ≤ (h1.cs.take n).length
    have := x.wf.le
    rw [List.length_take]; omega
  · have e1 : (h1.cs.take n)[i]? = some c := e1
    have hi : i < n := by
      have := (List.getElem?_eq_some_iff.mp e1).1
      rw [List.length_take] at this; omega
    rw [List.getElem?_take_of_lt hi] at e1
    exact x.wf.at_ i c e1
theorem Is.cut {n : Nat} {d : D} {v : V} (l : d.mr ≤ n) (x : Is K ρ H d v) : Is K (ρ.take n) H d v :=
  Is.mono (TupsKeep.refl _) n (fun i hi a ha => by rw [List.getElem?_take_of_lt hi]; exact ha) d v l x
end
end Dy

/-! What code computes, without a heap of objects: the combinators. -/
namespace Dy
open PySem PySem.Spec PyProof.Rows L2

inductive Res (α : Type) where
  | ok (v : α) (h : PH) | exc (c : Str) (h : PH) | stuck
def Res.bind {α β : Type} (r : Res α) (f : α → PH → Res β) : Res β := match r with
  | .ok v h => f v h
  | .exc c h => .exc c h
  | .stuck => .stuck
abbrev EM := Env → PH → Res D
abbrev AM := Env → PH → Res (List D)
abbrev TM := Env → PH → Res Bool

inductive Out where
  | nxt (e : Env) (h : PH) | ret (d : D) (h : PH) | brk (e : Env) (h : PH) | cnt (e : Env) (h : PH) | exc (c : Str) (e : Env) (h : PH) | stuck
abbrev SM := Env → PH → Out

/-- what is wanted of an exception; what an except suite holds -/
structure WJ where
  w : WX
  hx : Option (Nat × Addr)
abbrev kx (X : Cx) (W : WJ) : KX := ⟨X.K, W.hx, (X.prog, X.w)⟩
/-! ### what is wanted of a result, beyond (ρ, H) -/
def RD (K : KX) : List Addr → Hp → Nat → D → V → Prop := fun ρ H n d v => Is K ρ H d v ∧ d.mr ≤ n
def RL (K : KX) : List Addr → Hp → Nat → List D → List V → Prop := fun ρ H n ds vs => IsL K ρ H ds vs ∧ mrL ds ≤ n
def RB : List Addr → Hp → Nat → Bool → Bool → Prop := fun _ _ _ a b => a = b
section
variable (K : KX) (W : WJ)
def PostG {α β : Type} (R : List Addr → Hp → Nat → α → β → Prop) (σ : L2.St) (Q : β → Hp → Prop) (ρ : List Addr) (H : Hp) : Res α → Prop
  | .ok a h' => ∀ ρ' b H', Ext K ρ H h' ρ' H' → R ρ' H' h'.cs.length a b → Q b H'
  | .exc c h' => ∀ ρ' H', Ext K ρ H h' ρ' H' → W.w (.ref (He.ga K c)) none σ H'
  | .stuck => False
def tG {α β : Type} (R : List Addr → Hp → Nat → α → β → Prop) (m : Env → PH → Res α) : L2.St → Hp → (β → Hp → Prop) → Prop := fun σ H Q =>
  ∃ ρ env h, Rel K ρ env h σ H ∧ PostG K W R σ Q ρ H (m env h)
abbrev tE (m : EM) : TE := tG K W (RD K) m
abbrev tA (m : AM) : TA := tG K W (RL K) m
abbrev tT (m : TM) : TT := tG K W RB m

def PostS (D : Ends) (ρ : List Addr) (H : Hp) : Out → Prop
  | .nxt e h => ∀ ρ' σ' H', Ext K ρ H h ρ' H' → EnvIs K ρ' H' e σ' → EnvWf e h.cs.length → D.nx σ' H'
  | .brk e h => ∀ ρ' σ' H', Ext K ρ H h ρ' H' → EnvIs K ρ' H' e σ' → EnvWf e h.cs.length → D.bk σ' H'
  | .cnt e h => ∀ ρ' σ' H', Ext K ρ H h ρ' H' → EnvIs K ρ' H' e σ' → EnvWf e h.cs.length → D.ct σ' H'
  | .ret d h => ∀ ρ' v H', Ext K ρ H h ρ' H' → RD K ρ' H' h.cs.length d v → D.rt v H'
  | .exc c e h => ∀ ρ' σ' H', Ext K ρ H h ρ' H' → EnvIs K ρ' H' e σ' → EnvWf e h.cs.length → W.w (.ref (He.ga K c)) none σ' H'
  | .stuck => False
def tS (m : SM) : TS := fun D σ H => ∃ ρ env h, Rel K ρ env h σ H ∧ PostS K W D ρ H (m env h)
end
section
variable {K : KX} {W : WJ} {α β γ δ : Type} {R : List Addr → Hp → Nat → α → β → Prop} {R' : List Addr → Hp → Nat → γ → δ → Prop} {σ : L2.St} {ρ ρ1 : List Addr} {H H1 : Hp} {h h1 : PH} {env : Env}
theorem PostG.shift {Q : β → Hp → Prop} {r : Res α} (x : Ext K ρ H h1 ρ1 H1) (p : PostG K W R σ Q ρ H r) : PostG K W R σ Q ρ1 H1 r := by
  cases r with
  | ok a h2 => exact fun ρ2 b H2 y rb => p ρ2 b H2 (x.trans y) rb
  | exc c h2 => exact fun ρ2 H2 y => p ρ2 H2 (x.trans y)
  | stuck => exact p
theorem PostS.shift {D : Ends} {r : Out} (x : Ext K ρ H h1 ρ1 H1) (p : PostS K W D ρ H r) : PostS K W D ρ1 H1 r := by
  cases r with
  | nxt e h2 => exact fun ρ2 b H2 y z w => p ρ2 b H2 (x.trans y) z w
  | brk e h2 => exact fun ρ2 b H2 y z w => p ρ2 b H2 (x.trans y) z w
  | cnt e h2 => exact fun ρ2 b H2 y z w => p ρ2 b H2 (x.trans y) z w
  | ret d h2 => exact fun ρ2 b H2 y rb => p ρ2 b H2 (x.trans y) rb
  | exc c e h2 => exact fun ρ2 b H2 y z w => p ρ2 b H2 (x.trans y) z w
  | stuck => exact p
/-- the first of two steps -/
theorem PostG.bind {m : Env → PH → Res α} {k : α → PH → Res γ} {Q : δ → Hp → Prop} (r : Rel K ρ env h σ H) (p : PostG K W R' σ Q ρ H ((m env h).bind k)) :
    tG K W R m σ H fun b H1 => ∃ ρ1 h1 a, Ext K ρ H h1 ρ1 H1 ∧ R ρ1 H1 h1.cs.length a b ∧ PostG K W R' σ Q ρ1 H1 (k a h1) := by
  refine ⟨ρ, env, h, r, ?_⟩
  cases e : m env h with
  | ok a h1 =>
    rw [e] at p
    exact fun ρ' b H' x rb => ⟨ρ', h1, a, x, rb, p.shift x⟩
  | exc c h1 =>
    rw [e] at p
    exact p
  | stuck =>
    rw [e] at p
    exact p
end
/-- the first of a statement's steps -/
def Res.bindS {α : Type} (r : Res α) (e : Env) (f : α → PH → Out) : Out := match r with
  | .ok v h => f v h
  | .exc c h => .exc c e h
  | .stuck => .stuck
section
variable {K : KX} {W : WJ} {α β : Type} {R : List Addr → Hp → Nat → α → β → Prop} {σ : L2.St} {ρ : List Addr} {H : Hp} {h : PH} {env : Env}
theorem PostS.bind {m : Env → PH → Res α} {k : α → PH → Out} {D : Ends} (r : Rel K ρ env h σ H) (p : PostS K W D ρ H ((m env h).bindS env k)) :
    tG K W R m σ H fun b H1 => ∃ ρ1 h1 a, Ext K ρ H h1 ρ1 H1 ∧ R ρ1 H1 h1.cs.length a b ∧ PostS K W D ρ1 H1 (k a h1) := by
  refine ⟨ρ, env, h, r, ?_⟩
  cases e : m env h with
  | ok a h1 =>
    rw [e] at p
    exact fun ρ' b H' x rb => ⟨ρ', h1, a, x, rb, p.shift x⟩
  | exc c h1 =>
    rw [e] at p
    exact fun ρ' H' x => p ρ' σ H' x (x.envIs (by rw [r.len]; exact r.ewf) r.eis) (r.ewf.mono (by have := x.le; rw [r.len] at this; exact this))
  | stuck =>
    rw [e] at p
    exact p
end

/-! ### judgements -/
abbrev DE (X : Cx) (W : WJ) (e : Expr) (m : EM) : Prop := PE X e (tE (kx X W) W m)
abbrev DA (X : Cx) (W : WJ) (es : List Expr) (m : AM) : Prop := PA X es (tA (kx X W) W m)
abbrev DT (X : Cx) (W : WJ) (e : Expr) (m : TM) : Prop := PT X e (tT (kx X W) W m)
abbrev DS (X : Cx) (W : WJ) (st : Stmt) (m : SM) : Prop := PS X st (tS (kx X W) W m)
abbrev DSs (X : Cx) (W : WJ) (st : List Stmt) (m : SM) : Prop := PSs X st (tS (kx X W) W m)
section
variable {X : Cx} {W : WJ}
theorem pe_imp {e : Expr} {t t' : TE} (h : PE X e t) (k : ∀ σ H Q, t' σ H Q → t σ H Q) : PE X e t' := ⟨fun pins s σ H Q I q => h.run pins s σ H Q I (k σ H Q q)⟩
theorem pt_imp {e : Expr} {t t' : TT} (h : PT X e t) (k : ∀ σ H Q, t' σ H Q → t σ H Q) : PT X e t' := ⟨fun pins s σ H Q I q => h.run pins s σ H Q I (k σ H Q q)⟩
theorem pw_imp {e : Expr} {t t' : TT} (h : PW X e t) (k : ∀ σ H Q, t' σ H Q → t σ H Q) : PW X e t' := ⟨fun wh pins s σ H Q I q => h.run wh pins s σ H Q I (k σ H Q q)⟩
theorem pa_imp {e : List Expr} {t t' : TA} (h : PA X e t) (k : ∀ σ H Q, t' σ H Q → t σ H Q) : PA X e t' := ⟨fun pos pins s σ H Q I q => h.run pos pins s σ H Q I (k σ H Q q)⟩
theorem ps_imp {e : Stmt} {t t' : TS} (h : PS X e t) (k : ∀ D σ H, t' D σ H → t D σ H) : PS X e t' := ⟨fun pins s σ H D I q => h.run pins s σ H D I (k D σ H q)⟩
theorem pss_imp {e : List Stmt} {t t' : TS} (h : PSs X e t) (k : ∀ D σ H, t' D σ H → t D σ H) : PSs X e t' := ⟨fun pins s σ H D I q => h.run pins s σ H D I (k D σ H q)⟩
theorem pe_or' {e : Expr} {t t' : TE} (h : PE X e t) (h' : PE X e t') : PE X e (fun σ H Q => t σ H Q ∨ t' σ H Q) := ⟨fun pins s σ H Q I q => q.elim (h.run pins s σ H Q I) (h'.run pins s σ H Q I)⟩
def stuckE : EM := fun _ _ => .stuck
def stuckA : AM := fun _ _ => .stuck
def stuckT : TM := fun _ _ => .stuck
def stuckS : SM := fun _ _ => .stuck
theorem de_stuck {e : Expr} : DE X W e stuckE := ⟨fun _ _ _ _ _ _ ⟨_, _, _, _, p⟩ => False.elim p⟩
theorem da_stuck {e : List Expr} : DA X W e stuckA := ⟨fun _ _ _ _ _ _ _ ⟨_, _, _, _, p⟩ => False.elim p⟩
theorem dt_stuck {e : Expr} : DT X W e stuckT := ⟨fun _ _ _ _ _ _ ⟨_, _, _, _, p⟩ => False.elim p⟩
theorem ds_stuck {e : Stmt} : DS X W e stuckS := ⟨fun _ _ _ _ _ _ ⟨_, _, _, _, p⟩ => False.elim p⟩
theorem dss_stuck {e : List Stmt} : DSs X W e stuckS := ⟨fun _ _ _ _ _ _ ⟨_, _, _, _, p⟩ => False.elim p⟩

/-! ### constants, names -/
def cE (d : D) : EM := fun _ h => .ok d h
def vE (i : Nat) : EM := fun e h => match e[i]? with
  | some (some d) => .ok d h
  | _ => .stuck
theorem de_const {e : Expr} {d : D} {v : V} (h : PE X e (tC v)) (q : ∀ ρ H, Is (kx X W) ρ H d v) (z : d.mr = 0) : DE X W e (cE d) :=
  pe_imp h fun σ H Q ⟨ρ, env, h, r, p⟩ => p ρ v H r.refl ⟨q ρ H, by rw [z]; exact Nat.zero_le _⟩
theorem de_var {e : Expr} {i : Nat} (h : PE X e (tVar i)) : DE X W e (vE i) := pe_imp h fun σ H Q ⟨ρ, env, h, r, p⟩ => by
  unfold vE at p
  cases e : env[i]? with
  | none => rw [e] at p; exact False.elim p
  | some o =>
    rw [e] at p
    cases o with
    | none => exact False.elim p
    | some d =>
      obtain ⟨v, e1, e2⟩ := r.eis.at_ i d e
      exact ⟨v, e1, p ρ v H r.refl ⟨e2, r.ewf i d e⟩⟩

/-! ### operations upon values -/
def u1E (f : D → PH → Res D) (a : EM) : EM := fun e h => (a e h).bind f
def b2E (f : D → D → PH → Res D) (a b : EM) : EM := fun e h => (a e h).bind fun x h1 => (b e h1).bind fun y h2 => f x y h2
/-- the state at an operation -/
structure At (K : KX) (ρ : List Addr) (h : PH) (H : Hp) : Prop where
  heap : HRel K ρ H h.cs
  wf : Wf h
theorem Ext.at {K : KX} {ρ ρ1 : List Addr} {H H1 : Hp} {h1 : PH} (x : Ext K ρ H h1 ρ1 H1) : At K ρ1 h1 H1 := ⟨x.rel, x.wf⟩
theorem At.refl {K : KX} {ρ : List Addr} {H : Hp} {h : PH} (x : At K ρ h H) : Ext K ρ H h ρ H := Ext.refl x.heap x.wf
theorem RD.ext {K : KX} {ρ ρ1 : List Addr} {H H1 : Hp} {h h1 : PH} (x : Ext K ρ H h1 ρ1 H1) (hl : ρ.length = h.cs.length) {d : D} {v : V} (r : RD K ρ H h.cs.length d v) : RD K ρ1 H1 h1.cs.length d v :=
  ⟨x.is (by rw [hl]; exact r.2) r.1, Nat.le_trans r.2 (by rw [← hl]; exact x.le)⟩
theorem RL.ext {K : KX} {ρ ρ1 : List Addr} {H H1 : Hp} {h h1 : PH} (x : Ext K ρ H h1 ρ1 H1) (hl : ρ.length = h.cs.length) {d : List D} {v : List V} (r : RL K ρ H h.cs.length d v) : RL K ρ1 H1 h1.cs.length d v :=
  ⟨x.isL (by rw [hl]; exact r.2) r.1, Nat.le_trans r.2 (by rw [← hl]; exact x.le)⟩
/-- f upon values does what r asks -/
def Op1 (K : KX) (W : WJ) (f : D → PH → Res D) (r : V → Hp → VK → Prop) : Prop :=
  ∀ (σ : L2.St) (ρ : List Addr) (h : PH) (H : Hp) (d : D) (x : V) (Q : VK), At K ρ h H → RD K ρ H h.cs.length d x → PostG K W (RD K) σ Q ρ H (f d h) → r x H Q
def Op2 (K : KX) (W : WJ) (f : D → D → PH → Res D) (r : R2) : Prop :=
  ∀ (σ : L2.St) (ρ : List Addr) (h : PH) (H : Hp) (d e : D) (x y : V) (Q : VK), At K ρ h H → RD K ρ H h.cs.length d x → RD K ρ H h.cs.length e y → PostG K W (RD K) σ Q ρ H (f d e h) → r x y H Q
def OpN (K : KX) (W : WJ) (f : List D → PH → Res D) (r : List V → Hp → VK → Prop) : Prop :=
  ∀ (σ : L2.St) (ρ : List Addr) (h : PH) (H : Hp) (ds : List D) (xs : List V) (Q : VK), At K ρ h H → RL K ρ H h.cs.length ds xs → PostG K W (RD K) σ Q ρ H (f ds h) → r xs H Q
def OpM (K : KX) (W : WJ) (f : D → List D → PH → Res D) (r : V → List V → Hp → VK → Prop) : Prop :=
  ∀ (σ : L2.St) (ρ : List Addr) (h : PH) (H : Hp) (d : D) (x : V) (ds : List D) (xs : List V) (Q : VK), At K ρ h H → RD K ρ H h.cs.length d x → RL K ρ H h.cs.length ds xs → PostG K W (RD K) σ Q ρ H (f d ds h) → r x xs H Q

theorem tG_mono {K : KX} {α β : Type} {R : List Addr → Hp → Nat → α → β → Prop} {m : Env → PH → Res α} {σ : L2.St} {H : Hp} {Q Q' : β → Hp → Prop} (t : tG K W R m σ H Q) (k : ∀ b H1, Q b H1 → Q' b H1) : tG K W R m σ H Q' := by
  obtain ⟨ρ, env, h, r, p⟩ := t
  refine ⟨ρ, env, h, r, ?_⟩
  cases e : m env h with
  | stuck => rw [e] at p; exact p
  | exc c h1 => rw [e] at p; exact p
  | ok a h1 => rw [e] at p; exact fun ρ1 b H1 x1 rb => k b H1 (p ρ1 b H1 x1 rb)
theorem t_b2 {f : D → D → PH → Res D} {r : R2} {K : KX} (hf : Op2 K W f r) {ma mb : EM} {σ : L2.St} {H : Hp} {Q : VK} (t : tE K W (b2E f ma mb) σ H Q) : tOp r (tE K W ma) (tE K W mb) σ H Q := by
  obtain ⟨ρ, env, h, rl, p⟩ := t
  refine tG_mono (PostG.bind (R := RD K) rl p) fun b H1 ⟨ρ1, h1, a1, x1, ra1, p1⟩ => ?_
  refine tG_mono (PostG.bind (R := RD K) (rl.ext x1) p1) fun b2 H2 ⟨ρ2, h2, a2, x2, ra2, p2⟩ => ?_
  exact hf σ ρ2 h2 H2 a1 a2 b b2 Q x2.at (ra1.ext x2 (rl.ext x1).len) ra2 p2
theorem t_u1 {f : D → PH → Res D} {r : V → Hp → VK → Prop} {K : KX} (hf : Op1 K W f r) {ma : EM} {σ : L2.St} {H : Hp} {Q : VK} (t : tE K W (u1E f ma) σ H Q) : tE K W ma σ H fun x H1 => r x H1 Q := by
  obtain ⟨ρ, env, h, rl, p⟩ := t
  exact tG_mono (PostG.bind (R := RD K) rl p) fun b H1 ⟨ρ1, h1, a1, x1, ra1, p1⟩ => hf σ ρ1 h1 H1 a1 b Q x1.at ra1 p1
def nA (f : List D → PH → Res D) (a : AM) : EM := fun e h => (a e h).bind f
theorem t_nA {f : List D → PH → Res D} {r : List V → Hp → VK → Prop} {K : KX} (hf : OpN K W f r) {ma : AM} {σ : L2.St} {H : Hp} {Q : VK} (t : tE K W (nA f ma) σ H Q) : tA K W ma σ H fun xs H1 => r xs H1 Q := by
  obtain ⟨ρ, env, h, rl, p⟩ := t
  exact tG_mono (PostG.bind (R := RL K) rl p) fun b H1 ⟨ρ1, h1, a1, x1, ra1, p1⟩ => hf σ ρ1 h1 H1 a1 b Q x1.at ra1 p1
/-- a receiver, then arguments -/
def mA (f : D → List D → PH → Res D) (o : EM) (a : AM) : EM := fun e h => (o e h).bind fun x h1 => (a e h1).bind fun xs h2 => f x xs h2
theorem t_mA {f : D → List D → PH → Res D} {r : V → List V → Hp → VK → Prop} {K : KX} (hf : OpM K W f r) {mo : EM} {ma : AM} {σ : L2.St} {H : Hp} {Q : VK} (t : tE K W (mA f mo ma) σ H Q) :
    tE K W mo σ H fun x H1 => tA K W ma σ H1 fun xs H2 => r x xs H2 Q := by
  obtain ⟨ρ, env, h, rl, p⟩ := t
  refine tG_mono (PostG.bind (R := RD K) rl p) fun b H1 ⟨ρ1, h1, a1, x1, ra1, p1⟩ => ?_
  refine tG_mono (PostG.bind (R := RL K) (rl.ext x1) p1) fun b2 H2 ⟨ρ2, h2, a2, x2, ra2, p2⟩ => ?_
  exact hf σ ρ2 h2 H2 a1 b a2 b2 Q x2.at (ra1.ext x2 (rl.ext x1).len) ra2 p2

/-! ### argument lists, displays -/
def nilA : AM := fun _ h => .ok [] h
def consA (a : EM) (r : AM) : AM := fun e h => (a e h).bind fun x h1 => (r e h1).bind fun xs h2 => .ok (x :: xs) h2
def isStar : Expr → Bool
  | .Starred _ _ => true
  | _ => false
theorem star_no {e : Expr} (h : isStar e = false) (es : List Expr) (env : PySem.Env) : starEach (e :: es) env = (false, eval e env) :: starEach es env := by
  cases e <;> first | rfl | cases h
theorem da_nil : DA X W [] nilA := pa_imp pa_nil fun σ H Q ⟨ρ, env, h, r, p⟩ => p ρ [] H r.refl ⟨by unfold IsL; rfl, Nat.zero_le _⟩
theorem da_cons {e : Expr} {es : List Expr} {ma : EM} {mr : AM} (ns : isStar e = false) (ha : DE X W e ma) (hr : DA X W es mr) : DA X W (e :: es) (consA ma mr) :=
  pa_imp (pa_cons ha hr (star_no ns es _)) fun σ H Q ⟨ρ, env, h, rl, p⟩ => by
    refine tG_mono (PostG.bind (R := RD (kx X W)) rl p) fun b H1 ⟨ρ1, h1, a1, x1, ra1, p1⟩ => ?_
    refine tG_mono (PostG.bind (R := RL (kx X W)) (rl.ext x1) p1) fun b2 H2 ⟨ρ2, h2, a2, x2, ra2, p2⟩ => ?_
    have ra := ra1.ext x2 (rl.ext x1).len
    refine p2 ρ2 (b :: b2) H2 x2.at.refl ⟨?_, ?_⟩
    · unfold IsL; exact ⟨b, b2, rfl, ra.1, ra2.1⟩
    · unfold mrL; have := ra.2; have := ra2.2; omega
def tupF (ds : List D) (h : PH) : Res D := if ds.length ≤ 16777216 then .ok (.tup ds) h else .stuck
def lstF (ds : List D) (h : PH) : Res D := if ds.length ≤ 16777216 then .ok (.ref h.cs.length) (h.push (.lst ds)) else .stuck
theorem opn_tup : OpN (kx X W) W tupF (fun xs H Q => xs.length ≤ sizeLine ∧ ∀ p, H p = none → Q (.ref p) (upd H p (.tup xs))) := by
  intro σ ρ h H ds xs Q at_ rl p
  unfold tupF at p
  split at p
  · rename_i hl
    refine ⟨by rw [rl.1.length, sizeLine_eq]; exact hl, fun q hq => ?_⟩
    have x := Ext.obj (o := .tup xs) at_.heap at_.wf hq
    refine p ρ (.ref q) _ x ⟨?_, ?_⟩
    · unfold Is
      exact ⟨q, xs, rfl, SqT.of upd_same, x.isL (by rw [at_.heap.len]; exact rl.2) rl.1⟩
    · unfold D.mr; exact rl.2
  · exact p.elim
theorem opn_lst : OpN (kx X W) W lstF (fun xs H Q => xs.length ≤ sizeLine ∧ ∀ p, H p = none → Q (.ref p) (upd H p (.lst xs))) := by
  intro σ ρ h H ds xs Q at_ rl p
  unfold lstF at p
  split at p
  · rename_i hl
    refine ⟨by rw [rl.1.length, sizeLine_eq]; exact hl, fun q hq => ?_⟩
    have x : Ext (kx X W) ρ H (h.push (.lst ds)) (ρ ++ [q]) (upd H q (.lst xs)) := Ext.push at_.heap at_.wf hq rl.2 fun H' e k =>
      ⟨xs, e, IsL.mono k ρ.length (fun i hi a ha => by rw [List.getElem?_append_left hi]; exact ha) ds xs (by rw [at_.heap.len]; exact rl.2) rl.1⟩
    refine p (ρ ++ [q]) (.ref q) _ x ⟨?_, ?_⟩
    · unfold Is
      exact ⟨q, by rw [← at_.heap.len, List.getElem?_append_right (Nat.le_refl _), Nat.sub_self]; rfl, rfl⟩
    · unfold D.mr
      show _ ≤ (h.cs ++ [Cell.lst ds]).length
      rw [List.length_append]; exact Nat.le_refl _
  · exact p.elim
theorem de_tup {es : List Expr} {k : Nat} {pos : Pos} {ma : AM} (ha : DA X W es ma) : DE X W (.Tuple es k pos) (nA tupF ma) := pe_imp (pe_tup ha) fun σ H Q t => t_nA opn_tup t
theorem de_lst {es : List Expr} {pos : Pos} {ma : AM} (ha : DA X W es ma) : DE X W (.List es pos) (nA lstF ma) := pe_imp (pe_lst ha) fun σ H Q t => t_nA opn_lst t

/-! ### operators -/
theorem de_bin {a b : Expr} {op : Operator} {pos : Pos} {ma mb : EM} {f : D → D → PH → Res D} {r : R2} (ho : OpR X (binaryOp op) r) (hf : Op2 (kx X W) W f r) (ha : DE X W a ma) (hb : DE X W b mb) : DE X W (.BinOp a op b pos) (b2E f ma mb) :=
  pe_imp (pe_op ho ha hb) fun σ H Q t => t_b2 hf t
theorem de_un {a : Expr} {op : UnaryOp} {pos : Pos} {ma : EM} {f : D → PH → Res D} {r : V → Hp → VK → Prop} (ho : UnR X (unaryOp op) r) (hf : Op1 (kx X W) W f r) (ha : DE X W a ma) : DE X W (.UnaryOp op a pos) (u1E f ma) :=
  pe_imp (pe_un ho ha) fun σ H Q t => t_u1 hf t
theorem de_cmp {a b : Expr} {op : CmpOp} {pos : Pos} {ma mb : EM} {f : D → D → PH → Res D} {r : R2} (ho : OpR X (compareOp op) r) (hf : Op2 (kx X W) W f r) (ha : DE X W a ma) (hb : DE X W b mb) (hm : behindInMarks op b = false) : DE X W (.Compare a [op] [b] pos) (b2E f ma mb) :=
  pe_imp (pe_cmpR ho ha hb hm) fun σ H Q t => t_b2 hf t
end
end Dy

/-! Operators, comparisons, tests. -/
namespace Dy
open PySem PySem.Spec PyProof.Rows L2
section
variable {K : KX} {W : WJ}
/-! ### how values look -/
theorem Is.int {ρ : List Addr} {H : Hp} {i : Int} {v : V} (h : Is K ρ H (.int i) v) : v = .int i := by unfold Is at h; exact h
theorem Is.str {ρ : List Addr} {H : Hp} {i : Str} {v : V} (h : Is K ρ H (.str i) v) : v = .str i := by unfold Is at h; exact h
theorem Is.bl {ρ : List Addr} {H : Hp} {i : Bool} {v : V} (h : Is K ρ H (.bl i) v) : v = .bl i := by unfold Is at h; exact h
theorem Is.non {ρ : List Addr} {H : Hp} {v : V} (h : Is K ρ H .non v) : v = .non := by unfold Is at h; exact h
theorem Is.tup {ρ : List Addr} {H : Hp} {ds : List D} {v : V} (h : Is K ρ H (.tup ds) v) : ∃ a xs, v = .ref a ∧ SqT K H a xs ∧ IsL K ρ H ds xs := by unfold Is at h; exact h
theorem Is.frl {ρ : List Addr} {H : Hp} {ds : List D} {v : V} (h : Is K ρ H (.frl ds) v) : ∃ a xs, v = .ref a ∧ FrzL K H a xs ∧ IsL K ρ H ds xs := by unfold Is at h; exact h
theorem Is.ref {ρ : List Addr} {H : Hp} {n : Nat} {v : V} (h : Is K ρ H (.ref n) v) : ∃ a, ρ[n]? = some a ∧ v = .ref a := by unfold Is at h; exact h
theorem is_int {ρ : List Addr} {H : Hp} {i : Int} {n : Nat} : RD K ρ H n (.int i) (.int i) := ⟨by unfold Is; rfl, Nat.zero_le _⟩
theorem is_str {ρ : List Addr} {H : Hp} {i : Str} {n : Nat} : RD K ρ H n (.str i) (.str i) := ⟨by unfold Is; rfl, Nat.zero_le _⟩
theorem is_bl {ρ : List Addr} {H : Hp} {i : Bool} {n : Nat} : RD K ρ H n (.bl i) (.bl i) := ⟨by unfold Is; rfl, Nat.zero_le _⟩
theorem is_non {ρ : List Addr} {H : Hp} {n : Nat} : RD K ρ H n .non .non := ⟨by unfold Is; rfl, Nat.zero_le _⟩
/-- a list's cell -/
theorem At.lst {ρ : List Addr} {h : PH} {H : Hp} (x : At K ρ h H) {n : Nat} {ds : List D} (e : h.cs[n]? = some (.lst ds)) {v : V} (i : Is K ρ H (.ref n) v) :
    ∃ a xs, v = .ref a ∧ ρ[n]? = some a ∧ H a = some (.lst xs) ∧ IsL K ρ H ds xs ∧ mrL ds ≤ h.cs.length := by
  obtain ⟨a, ha, rfl⟩ := i.ref
  obtain ⟨xs, h1, h2⟩ := x.heap.at_ n _ a e ha
  have l : mrL ds ≤ max n h.lim := x.wf.at_ n _ e
  have : n < h.cs.length := (List.getElem?_eq_some_iff.mp e).1
  have := x.wf.le
  exact ⟨a, xs, rfl, ha, h1, h2, by omega⟩
/-- a dict's cell -/
theorem At.dct {ρ : List Addr} {h : PH} {H : Hp} (x : At K ρ h H) {n : Nat} {kvs : List (Key × D)} (e : h.cs[n]? = some (.dict kvs)) {v : V} (i : Is K ρ H (.ref n) v) :
    ∃ a xs, v = .ref a ∧ ρ[n]? = some a ∧ H a = some (.dK xs) ∧ IsK K ρ H kvs xs ∧ mrK kvs ≤ h.cs.length := by
  obtain ⟨a, ha, rfl⟩ := i.ref
  obtain ⟨xs, h1, h2⟩ := x.heap.at_ n _ a e ha
  have l : mrK kvs ≤ max n h.lim := x.wf.at_ n _ e
  have : n < h.cs.length := (List.getElem?_eq_some_iff.mp e).1
  have := x.wf.le
  exact ⟨a, xs, rfl, ha, h1, h2, by omega⟩
/-! ### dicts -/
def keyD : D → Option Key
  | .int i => some (.inl i)
  | .str x => some (.inr x)
  | _ => none
theorem keyD_is {ρ : List Addr} {H : Hp} {d : D} {k : Key} {v : V} (h : keyD d = some k) (i : Is K ρ H d v) : v = kV k := by
  cases d with
  | int j => cases h; exact i.int
  | str x => cases h; exact i.str
  | _ => cases h
def dGetL : List (Key × D) → Key → Option D
  | [], _ => none
  | p :: r, k => if p.1 = k then some p.2 else dGetL r k
def dPutL (l : List (Key × D)) (k : Key) (d : D) : List (Key × D) := if (l.any fun p => decide (p.1 = k)) = true then l.map (fun p => if p.1 = k then (p.1, d) else p) else l ++ [(k, d)]
theorem dGetL_is {ρ : List Addr} {H : Hp} {k : Key} : ∀ {kvs : List (Key × D)} {xs : List (Key × V)}, IsK K ρ H kvs xs → (∀ d, dGetL kvs k = some d → ∃ v, valV xs k = some v ∧ Is K ρ H d v ∧ d.mr ≤ mrK kvs) ∧ (dGetL kvs k = none → valV xs k = none)
  | [], xs, h => by
    unfold IsK at h
    subst h
    exact ⟨fun d h => (by cases h), fun _ => rfl⟩
  | p :: r, xs, h => by
    unfold IsK at h
    obtain ⟨v, s, rfl, i1, i2⟩ := h
    obtain ⟨n1, n2⟩ := dGetL_is (k := k) i2
    by_cases c : p.1 = k
    · have e : valV ((p.1, v) :: s) k = some v := valV_pos c
      refine ⟨fun d' h' => ?_, fun h' => ?_⟩
      · have h' : (if p.1 = k then some p.2 else dGetL r k) = some d' := h'
        rw [if_pos c] at h'
        cases h'
        exact ⟨v, e, i1, by unfold mrK; omega⟩
      · have h' : (if p.1 = k then some p.2 else dGetL r k) = none := h'
        rw [if_pos c] at h'; cases h'
    · have e : valV ((p.1, v) :: s) k = valV s k := valV_neg c
      have g : dGetL (p :: r) k = dGetL r k := if_neg c
      rw [g, e]
      refine ⟨fun d' h' => ?_, n2⟩
      obtain ⟨v', a1, a2, a3⟩ := n1 d' h'
      exact ⟨v', a1, a2, by unfold mrK; omega⟩
theorem isK_any {ρ : List Addr} {H : Hp} {k : Key} : ∀ {kvs : List (Key × D)} {xs : List (Key × V)}, IsK K ρ H kvs xs → (kvs.any fun p => decide (p.1 = k)) = (xs.any fun p => decide (p.1 = k))
  | [], xs, h => by unfold IsK at h; subst h; rfl
  | p :: r, xs, h => by
    unfold IsK at h
    obtain ⟨v, s, rfl, i1, i2⟩ := h
    rw [List.any_cons, List.any_cons, isK_any i2]
theorem isK_map {ρ : List Addr} {H : Hp} {k : Key} {d : D} {v : V} (i : Is K ρ H d v) : ∀ {kvs : List (Key × D)} {xs : List (Key × V)}, IsK K ρ H kvs xs → IsK K ρ H (kvs.map fun p => if p.1 = k then (p.1, d) else p) (xs.map fun p => if p.1 = k then (p.1, v) else p)
  | [], xs, h => by unfold IsK at h; subst h; exact (by unfold IsK; rfl)
  | p :: r, xs, h => by
    unfold IsK at h
    obtain ⟨w, s, rfl, i1, i2⟩ := h
    rw [List.map_cons, List.map_cons]
    unfold IsK
    by_cases c : p.1 = k
    · rw [if_pos c, if_pos c]; exact ⟨v, _, rfl, i, isK_map i i2⟩
    · rw [if_neg c, if_neg c]; exact ⟨w, _, rfl, i1, isK_map i i2⟩
theorem isK_snoc {ρ : List Addr} {H : Hp} {k : Key} {d : D} {v : V} (i : Is K ρ H d v) : ∀ {kvs : List (Key × D)} {xs : List (Key × V)}, IsK K ρ H kvs xs → IsK K ρ H (kvs ++ [(k, d)]) (xs ++ [(k, v)])
  | [], xs, h => by
    unfold IsK at h
    subst h
    show IsK K ρ H [(k, d)] [(k, v)]
    unfold IsK
    exact ⟨v, [], rfl, i, by unfold IsK; rfl⟩
  | p :: r, xs, h => by
    unfold IsK at h
    obtain ⟨w, s, rfl, i1, i2⟩ := h
    show IsK K ρ H (p :: (r ++ [(k, d)])) ((p.1, w) :: (s ++ [(k, v)]))
    unfold IsK
    exact ⟨w, _, rfl, i1, isK_snoc i i2⟩
theorem isK_put {ρ : List Addr} {H : Hp} {k : Key} {d : D} {v : V} {kvs : List (Key × D)} {xs : List (Key × V)} (i : Is K ρ H d v) (h : IsK K ρ H kvs xs) : IsK K ρ H (dPutL kvs k d) (putK xs k v) := by
  unfold dPutL putK
  rw [isK_any h]
  split
  · exact isK_map i h
  · exact isK_snoc i h
theorem isK_len {ρ : List Addr} {H : Hp} : ∀ {kvs : List (Key × D)} {xs : List (Key × V)}, IsK K ρ H kvs xs → xs.length = kvs.length
  | [], xs, h => by unfold IsK at h; subst h; rfl
  | p :: r, xs, h => by
    unfold IsK at h
    obtain ⟨w, s, rfl, i1, i2⟩ := h
    rw [List.length_cons, List.length_cons, isK_len i2]
theorem mrK_map {k : Key} {d : D} : ∀ {kvs : List (Key × D)}, mrK (kvs.map fun p => if p.1 = k then (p.1, d) else p) ≤ max (mrK kvs) d.mr
  | [] => Nat.zero_le _
  | p :: r => by
    have := mrK_map (k := k) (d := d) (kvs := r)
    rw [List.map_cons]
    unfold mrK
    by_cases c : p.1 = k
    · rw [if_pos c]; show max d.mr _ ≤ _; omega
    · rw [if_neg c]; omega
theorem mrK_snoc {k : Key} {d : D} : ∀ {kvs : List (Key × D)}, mrK (kvs ++ [(k, d)]) = max (mrK kvs) d.mr
  | [] => by show max d.mr 0 = max 0 d.mr; omega
  | p :: r => by
    show max p.2.mr (mrK (r ++ [(k, d)])) = max (max p.2.mr (mrK r)) d.mr
    rw [mrK_snoc]; omega
theorem mrK_put {k : Key} {d : D} {kvs : List (Key × D)} : mrK (dPutL kvs k d) ≤ max (mrK kvs) d.mr := by
  unfold dPutL
  split
  · exact mrK_map
  · rw [mrK_snoc]; exact Nat.le_refl _
/-! ### keyed by tuples -/
mutual
def keyN : D → Option NestedKey
  | .non => some .none
  | .bl b => some (.num (if b = true then 1 else 0))
  | .int i => some (.num i)
  | .str x => some (.text x)
  | .tup ds => (match keyNs ds with
    | some ks => some (.tup ks)
    | none => none)
  | .frl _ => none
  | .ref _ => none
  | .ty _ => none
  | .glb _ => none
def keyNs : List D → Option (List NestedKey)
  | [] => some []
  | d :: ds => (match keyN d with
    | some k => (match keyNs ds with
      | some ks => some (k :: ks)
      | none => none)
    | none => none)
end
mutual
theorem keyN_is {ρ : List Addr} {H : Hp} : ∀ (d : D) (v : V) (k : NestedKey), keyN d = some k → Is K ρ H d v → KeyIs K.K H k v
  | .non, v, k, h, i => by unfold keyN at h; cases h; unfold KeyIs; exact i.non
  | .bl b, v, k, h, i => by unfold keyN at h; cases h; unfold KeyIs; exact .inr ⟨b, i.bl, rfl⟩
  | .int j, v, k, h, i => by unfold keyN at h; cases h; unfold KeyIs; exact .inl i.int
  | .str x, v, k, h, i => by unfold keyN at h; cases h; unfold KeyIs; exact i.str
  | .tup ds, v, k, h, i => by
    unfold keyN at h
    cases e : keyNs ds with
    | none => rw [e] at h; cases h
    | some ks =>
      rw [e] at h
      cases h
      obtain ⟨a, xs, rfl, sq, il⟩ := i.tup
      unfold KeyIs
      exact ⟨a, xs, rfl, sq, keyNs_is ds xs ks e il⟩
  | .frl _, v, k, h, i => by unfold keyN at h; cases h
  | .ref _, v, k, h, i => by unfold keyN at h; cases h
  | .ty _, v, k, h, i => by unfold keyN at h; cases h
  | .glb _, v, k, h, i => by unfold keyN at h; cases h
theorem keyNs_is {ρ : List Addr} {H : Hp} : ∀ (ds : List D) (vs : List V) (ks : List NestedKey), keyNs ds = some ks → IsL K ρ H ds vs → KeyAll K.K H ks vs
  | [], vs, ks, h, i => by unfold keyNs at h; cases h; unfold KeyAll; unfold IsL at i; exact i
  | d :: ds, vs, ks, h, i => by
    unfold keyNs at h
    cases e : keyN d with
    | none => rw [e] at h; cases h
    | some k =>
      rw [e] at h
      cases e2 : keyNs ds with
      | none => rw [e2] at h; cases h
      | some ks2 =>
        rw [e2] at h
        cases h
        unfold IsL at i
        obtain ⟨x, r, rfl, i1, i2⟩ := i
        unfold KeyAll
        exact ⟨x, r, rfl, keyN_is d x k e i1, keyNs_is ds r ks2 e2 i2⟩
end
/-- a tuple that may be a key -/
def keyT : D → Option NestedKey
  | .tup ds => (match keyNs ds with
    | some ks => if (NestedKey.tup ks).depth ≤ 8 then some (.tup ks) else none
    | none => none)
  | _ => none
theorem keyT_is {ρ : List Addr} {H : Hp} {d : D} {v : V} {k : NestedKey} (h : keyT d = some k) (i : Is K ρ H d v) : ∃ b, v = .ref b ∧ KeyIs K.K H k (.ref b) ∧ k.depth ≤ 8 := by
  unfold keyT at h
  split at h
  · rename_i ds
    split at h
    · rename_i ks e
      split at h
      · rename_i h8
        cases h
        obtain ⟨a, xs, rfl, sq, il⟩ := i.tup
        refine ⟨a, rfl, ?_, h8⟩
        unfold KeyIs
        exact ⟨a, xs, rfl, sq, keyNs_is ds xs ks e il⟩
      · cases h
    · cases h
  · cases h
def nGetL : List (NestedKey × D) → NestedKey → Option D
  | [], _ => none
  | p :: r, k => if p.1 = k then some p.2 else nGetL r k
def nPutL (l : List (NestedKey × D)) (k : NestedKey) (d : D) : List (NestedKey × D) := if (nGetL l k).isSome = true then l.map (fun p => if p.1 = k then (p.1, d) else p) else l ++ [(k, d)]
theorem atN_pos {x : NE} {r : List NE} {k : NestedKey} (c : x.1 = k) : atN (x :: r) k = some x.2.2 := by
  unfold atN
  rw [List.find?_cons, decide_eq_true c]; rfl
theorem atN_neg {x : NE} {r : List NE} {k : NestedKey} (c : ¬ x.1 = k) : atN (x :: r) k = atN r k := by
  unfold atN
  rw [List.find?_cons, decide_eq_false c]
theorem nGetL_is {ρ : List Addr} {H : Hp} {k : NestedKey} : ∀ {kvs : List (NestedKey × D)} {xs : List NE}, IsN K ρ H kvs xs → (∀ d, nGetL kvs k = some d → ∃ v, atN xs k = some v ∧ Is K ρ H d v ∧ d.mr ≤ mrN kvs) ∧ (nGetL kvs k = none → atN xs k = none)
  | [], xs, h => by
    unfold IsN at h
    subst h
    exact ⟨fun d h => (by cases h), fun _ => rfl⟩
  | p :: r, xs, h => by
    unfold IsN at h
    obtain ⟨b, v, s, rfl, i1, i2⟩ := h
    obtain ⟨n1, n2⟩ := nGetL_is (k := k) i2
    by_cases c : p.1 = k
    · refine ⟨fun d' h' => ?_, fun h' => ?_⟩
      · have h' : (if p.1 = k then some p.2 else nGetL r k) = some d' := h'
        rw [if_pos c] at h'
        cases h'
        exact ⟨v, atN_pos c, i1, by unfold mrN; omega⟩
      · have h' : (if p.1 = k then some p.2 else nGetL r k) = none := h'
        rw [if_pos c] at h'; cases h'
    · have g : nGetL (p :: r) k = nGetL r k := if_neg c
      rw [g, atN_neg (x := (p.1, b, v)) c]
      refine ⟨fun d' h' => ?_, n2⟩
      obtain ⟨v', a1, a2, a3⟩ := n1 d' h'
      exact ⟨v', a1, a2, by unfold mrN; omega⟩
theorem nGetL_some {ρ : List Addr} {H : Hp} {k : NestedKey} {kvs : List (NestedKey × D)} {xs : List NE} (h : IsN K ρ H kvs xs) : (nGetL kvs k).isSome = (atN xs k).isSome := by
  obtain ⟨n1, n2⟩ := nGetL_is (k := k) h
  cases e : nGetL kvs k with
  | none => rw [n2 e]; rfl
  | some d => obtain ⟨v, e1, _⟩ := n1 d e; rw [e1]; rfl
theorem isN_map {ρ : List Addr} {H : Hp} {k : NestedKey} {d : D} {v : V} (i : Is K ρ H d v) : ∀ {kvs : List (NestedKey × D)} {xs : List NE}, IsN K ρ H kvs xs → IsN K ρ H (kvs.map fun p => if p.1 = k then (p.1, d) else p) (xs.map fun x => if x.1 = k then (x.1, x.2.1, v) else x)
  | [], xs, h => by unfold IsN at h; subst h; exact (by unfold IsN; rfl)
  | p :: r, xs, h => by
    unfold IsN at h
    obtain ⟨b, w, s, rfl, i1, i2⟩ := h
    rw [List.map_cons, List.map_cons]
    unfold IsN
    by_cases c : p.1 = k
    · rw [if_pos c, if_pos c]; exact ⟨b, v, _, rfl, i, isN_map i i2⟩
    · rw [if_neg c, if_neg c]; exact ⟨b, w, _, rfl, i1, isN_map i i2⟩
theorem isN_snoc {ρ : List Addr} {H : Hp} {k : NestedKey} {b : Addr} {d : D} {v : V} (i : Is K ρ H d v) : ∀ {kvs : List (NestedKey × D)} {xs : List NE}, IsN K ρ H kvs xs → IsN K ρ H (kvs ++ [(k, d)]) (xs ++ [(k, b, v)])
  | [], xs, h => by
    unfold IsN at h
    subst h
    show IsN K ρ H [(k, d)] [(k, b, v)]
    unfold IsN
    exact ⟨b, v, [], rfl, i, by unfold IsN; rfl⟩
  | p :: r, xs, h => by
    unfold IsN at h
    obtain ⟨c, w, s, rfl, i1, i2⟩ := h
    show IsN K ρ H (p :: (r ++ [(k, d)])) ((p.1, c, w) :: (s ++ [(k, b, v)]))
    unfold IsN
    exact ⟨c, w, _, rfl, i1, isN_snoc i i2⟩
theorem isN_put {ρ : List Addr} {H : Hp} {k : NestedKey} {b : Addr} {d : D} {v : V} {kvs : List (NestedKey × D)} {xs : List NE} (i : Is K ρ H d v) (h : IsN K ρ H kvs xs) : IsN K ρ H (nPutL kvs k d) (putN xs k b v) := by
  unfold nPutL putN
  rw [nGetL_some h]
  split
  · exact isN_map i h
  · exact isN_snoc i h
theorem isN_len {ρ : List Addr} {H : Hp} : ∀ {kvs : List (NestedKey × D)} {xs : List NE}, IsN K ρ H kvs xs → xs.length = kvs.length
  | [], xs, h => by unfold IsN at h; subst h; rfl
  | p :: r, xs, h => by
    unfold IsN at h
    obtain ⟨c, w, s, rfl, i1, i2⟩ := h
    rw [List.length_cons, List.length_cons, isN_len i2]
theorem mrN_map {k : NestedKey} {d : D} : ∀ {l : List (NestedKey × D)}, mrN (l.map fun p => if p.1 = k then (p.1, d) else p) ≤ max (mrN l) d.mr
  | [] => Nat.zero_le _
  | p :: r => by
    have := mrN_map (k := k) (d := d) (l := r)
    rw [List.map_cons]
    unfold mrN
    by_cases c : p.1 = k
    · rw [if_pos c]
      show max d.mr _ ≤ _
      omega
    · rw [if_neg c]; omega
theorem mrN_snoc {k : NestedKey} {d : D} : ∀ {l : List (NestedKey × D)}, mrN (l ++ [(k, d)]) ≤ max (mrN l) d.mr
  | [] => by show max d.mr 0 ≤ max 0 d.mr; omega
  | p :: r => by
    have := mrN_snoc (k := k) (d := d) (l := r)
    show max p.2.mr (mrN (r ++ [(k, d)])) ≤ max (max p.2.mr (mrN r)) d.mr
    omega
theorem mrN_put {l : List (NestedKey × D)} {k : NestedKey} {d : D} : mrN (nPutL l k d) ≤ max (mrN l) d.mr := by
  unfold nPutL
  split
  · exact mrN_map
  · exact mrN_snoc
theorem NKeys.put {H : Hp} {xs : List NE} {k : NestedKey} {b : Addr} {v : V} {F : PySem.W.Frag} (h : NKeys F H xs) (hk : KeyIs F H k (.ref b)) (h8 : k.depth ≤ 8) : NKeys F H (putN xs k b v) := by
  unfold putN
  split
  · intro x hx
    obtain ⟨y, hy, rfl⟩ := List.mem_map.mp hx
    by_cases c : y.1 = k
    · rw [if_pos c]; exact h y hy
    · rw [if_neg c]; exact h y hy
  · intro x hx
    rcases List.mem_append.mp hx with hx | hx
    · exact h x hx
    · have : x = (k, b, v) := by simpa using hx
      subst this
      exact ⟨hk, h8⟩
def dnOf : Cell → Option (List (NestedKey × D))
  | .dN kvs => some kvs
  | .dict [] => some []
  | _ => none
theorem At.dn {ρ : List Addr} {h : PH} {H : Hp} (x : At K ρ h H) {n : Nat} {c : Cell} {kvs : List (NestedKey × D)} (e : h.cs[n]? = some c) (ec : dnOf c = some kvs) {v : V} (i : Is K ρ H (.ref n) v) :
    ∃ a xs, v = .ref a ∧ ρ[n]? = some a ∧ DNat K.pw.1 K.pw.2 K.K H a xs ∧ IsN K ρ H kvs xs ∧ mrN kvs ≤ h.cs.length := by
  unfold dnOf at ec
  split at ec
  · rename_i ks
    cases ec
    obtain ⟨a, ha, rfl⟩ := i.ref
    obtain ⟨xs, h1, h2, h3⟩ := x.heap.at_ n _ a e ha
    have l : mrN kvs ≤ max n h.lim := x.wf.at_ n _ e
    have : n < h.cs.length := (List.getElem?_eq_some_iff.mp e).1
    have := x.wf.le
    exact ⟨a, xs, rfl, ha, ⟨.inl h1, h2⟩, h3, by omega⟩
  · cases ec
    obtain ⟨a, xs, rfl, ha, h1, h2, _⟩ := x.dct e i
    unfold IsK at h2
    subst h2
    exact ⟨a, [], rfl, ha, ⟨.inr ⟨h1, rfl⟩, fun y hy => nomatch hy⟩, by unfold IsN; rfl, Nat.zero_le _⟩
  · cases ec
/-- what the dict in cell n holds at the tuple i -/
def nLook (h : PH) (n : Nat) (k : NestedKey) : Option (Option D) := match h.cs[n]? with
  | some c => (match dnOf c with
    | some kvs => some (nGetL kvs k)
    | none => none)
  | none => none
theorem nLook_is {ρ : List Addr} {h : PH} {H : Hp} (at_ : At K ρ h H) {n : Nat} {i : D} {k : NestedKey} {r : Option D} {x y : V} (hk : keyT i = some k) (e : nLook h n k = some r) (rx : Is K ρ H (.ref n) x) (ry : Is K ρ H i y) :
    ∃ a b xs, x = .ref a ∧ y = .ref b ∧ DNat K.pw.1 K.pw.2 K.K H a xs ∧ KeyIs K.K H k (.ref b) ∧ k.depth ≤ 8 ∧ r.isSome = (atN xs k).isSome ∧ ∀ d, r = some d → ∃ v, atN xs k = some v ∧ RD K ρ H h.cs.length d v := by
  unfold nLook at e
  split at e
  · rename_i c q
    split at e
    · rename_i kvs q2
      cases e
      obtain ⟨a, xs, rfl, _, dn, isn, l⟩ := at_.dn q q2 rx
      obtain ⟨b, rfl, k1, k2⟩ := keyT_is hk ry
      refine ⟨a, b, xs, rfl, rfl, dn, k1, k2, nGetL_some isn, fun d hd => ?_⟩
      obtain ⟨v, e1, e2, e3⟩ := (nGetL_is (k := k) isn).1 d hd
      exact ⟨v, e1, e2, Nat.le_trans e3 l⟩
    · cases e
  · cases e
def rIxN (K : KX) : R2 := fun x y H Q => ∃ a b k xs v, x = .ref a ∧ y = .ref b ∧ DNat K.pw.1 K.pw.2 K.K H a xs ∧ KeyIs K.K H k (.ref b) ∧ k.depth ≤ 8 ∧ atN xs k = some v ∧ Q v H
theorem ix_n {X : Cx} {hx : Option (Nat × Addr)} (hu : X.A.units + 9 < cLine) : IxR X (rIxN ⟨X.K, hx, (X.prog, X.w)⟩) := by
  intro value slice pins s σ H x y v u Q I rx ry h hs
  obtain ⟨a, b, k, xs, z, rfl, rfl, dn, hk, h8, g, q⟩ := h
  obtain rfl : v = Value.ref a := rx
  obtain rfl : u = Value.ref b := ry
  obtain ⟨_, _, ys, _, dd⟩ := dn_of I dn
  exact tail_any dd.typeIs PySem.F.slot_dict_getitem.lookup (n_getItem hu I dn hk h8 g fun w' s3 I3 rw' => ⟨z, H, I3, rw', q⟩) hs
/-- d[k], a dict of one's own -/
def rIxDct : R2 := fun x y H Q => ∃ a v, x = .ref a ∧ DGet H a y (some v) ∧ Q v H
theorem ix_dict {X : Cx} (hu : X.A.units + 1 < cLine) : IxR X rIxDct := by
  intro value slice pins s σ H x y v u Q I rx ry h hs
  obtain ⟨a, z, rfl, g, q⟩ := h
  obtain rfl : v = Value.ref a := rx
  exact tail_any (dict_typeIs I g) PySem.F.slot_dict_getitem.lookup (d_getItem hu I g ry fun w' s3 I3 rw' => ⟨z, H, I3, rw', q⟩) hs
theorem IsL.get {ρ : List Addr} {H : Hp} : ∀ {ds : List D} {xs : List V} {i : Nat} {d : D}, IsL K ρ H ds xs → ds[i]? = some d → ∃ v, xs[i]? = some v ∧ Is K ρ H d v
  | [], _, i, d, _, e => by simp at e
  | c :: ds, xs, 0, d, h, e => by
    unfold IsL at h
    obtain ⟨x, r, rfl, h1, _⟩ := h
    simp at e; subst e
    exact ⟨x, rfl, h1⟩
  | c :: ds, xs, i + 1, d, h, e => by
    unfold IsL at h
    obtain ⟨x, r, rfl, _, h2⟩ := h
    obtain ⟨v, e1, e2⟩ := IsL.get (i := i) (d := d) h2 (by simpa using e)
    exact ⟨v, by simpa using e1, e2⟩
theorem mrL_get : ∀ {ds : List D} {i : Nat} {d : D}, ds[i]? = some d → d.mr ≤ mrL ds
  | [], i, d, e => by simp at e
  | c :: ds, 0, d, e => by
    simp at e; subst e
    unfold mrL; omega
  | c :: ds, i + 1, d, e => by
    have := mrL_get (ds := ds) (i := i) (d := d) (by simpa using e)
    unfold mrL; omega
theorem IsL.append {ρ : List Addr} {H : Hp} : ∀ {ds es : List D} {xs ys : List V}, IsL K ρ H ds xs → IsL K ρ H es ys → IsL K ρ H (ds ++ es) (xs ++ ys)
  | [], _, _, _, h, h' => by unfold IsL at h; subst h; exact h'
  | d :: ds, es, xs, ys, h, h' => by
    unfold IsL at h
    obtain ⟨x, r, rfl, h1, h2⟩ := h
    show IsL K ρ H (d :: (ds ++ es)) (x :: (r ++ ys))
    unfold IsL
    exact ⟨x, r ++ ys, rfl, h1, IsL.append h2 h'⟩
theorem mrL_append : ∀ {ds es : List D}, mrL (ds ++ es) = max (mrL ds) (mrL es)
  | [], es => by show mrL es = max 0 (mrL es); omega
  | d :: ds, es => by
    show max d.mr (mrL (ds ++ es)) = max (max d.mr (mrL ds)) (mrL es)
    rw [mrL_append]; omega
theorem IsL.take {ρ : List Addr} {H : Hp} : ∀ {ds : List D} {xs : List V} (n : Nat), IsL K ρ H ds xs → IsL K ρ H (ds.take n) (xs.take n)
  | _, _, 0, _ => by show IsL K ρ H [] []; unfold IsL; rfl
  | [], xs, n + 1, h => by unfold IsL at h; subst h; show IsL K ρ H [] []; unfold IsL; rfl
  | d :: ds, xs, n + 1, h => by
    unfold IsL at h
    obtain ⟨x, r, rfl, h1, h2⟩ := h
    show IsL K ρ H (d :: ds.take n) (x :: r.take n)
    unfold IsL
    exact ⟨x, _, rfl, h1, IsL.take n h2⟩
theorem IsL.drop {ρ : List Addr} {H : Hp} : ∀ {ds : List D} {xs : List V} (n : Nat), IsL K ρ H ds xs → IsL K ρ H (ds.drop n) (xs.drop n)
  | _, _, 0, h => h
  | [], xs, n + 1, h => by unfold IsL at h; subst h; show IsL K ρ H [] []; unfold IsL; rfl
  | d :: ds, xs, n + 1, h => by
    unfold IsL at h
    obtain ⟨x, r, rfl, h1, h2⟩ := h
    exact IsL.drop (ds := ds) (xs := r) n h2
theorem mrL_take : ∀ {ds : List D} {n : Nat}, mrL (ds.take n) ≤ mrL ds
  | _, 0 => Nat.zero_le _
  | [], _ + 1 => Nat.zero_le _
  | d :: ds, n + 1 => by
    show max d.mr (mrL (ds.take n)) ≤ max d.mr (mrL ds)
    have := mrL_take (ds := ds) (n := n); omega
theorem mrL_drop : ∀ {ds : List D} {n : Nat}, mrL (ds.drop n) ≤ mrL ds
  | _, 0 => Nat.le_refl _
  | [], _ + 1 => Nat.zero_le _
  | d :: ds, n + 1 => by
    show mrL (ds.drop n) ≤ max d.mr (mrL ds)
    have := mrL_drop (ds := ds) (n := n); omega
theorem IsL.set {ρ : List Addr} {H : Hp} {d : D} {v : V} (q : Is K ρ H d v) : ∀ {ds : List D} {xs : List V} (i : Nat), IsL K ρ H ds xs → IsL K ρ H (ds.set i d) (xs.set i v)
  | [], xs, i, h => by unfold IsL at h; subst h; show IsL K ρ H [] []; unfold IsL; rfl
  | c :: ds, xs, 0, h => by
    unfold IsL at h
    obtain ⟨x, r, rfl, _, h2⟩ := h
    show IsL K ρ H (d :: ds) (v :: r)
    unfold IsL
    exact ⟨v, r, rfl, q, h2⟩
  | c :: ds, xs, i + 1, h => by
    unfold IsL at h
    obtain ⟨x, r, rfl, h1, h2⟩ := h
    show IsL K ρ H (c :: ds.set i d) (x :: r.set i v)
    unfold IsL
    exact ⟨x, _, rfl, h1, IsL.set q i h2⟩
theorem mrL_set {d : D} : ∀ {ds : List D} {i : Nat}, mrL (ds.set i d) ≤ max (mrL ds) d.mr
  | [], _ => Nat.zero_le _
  | c :: ds, 0 => by show max d.mr (mrL ds) ≤ max (max c.mr (mrL ds)) d.mr; omega
  | c :: ds, i + 1 => by
    show max c.mr (mrL (ds.set i d)) ≤ max (max c.mr (mrL ds)) d.mr
    have := mrL_set (d := d) (ds := ds) (i := i); omega

/-! ### int operations -/
def stepI (f : Int → Int → Option D) : D → D → PH → Res D := fun a b h => match a, b with
  | .int i, .int j => (match f i j with
    | some d => .ok d h
    | none => .stuck)
  | _, _ => .stuck
/-- an operation on ints whose answer is an int -/
theorem op2_int {f : Int → Int → Option D} {C : Int → Int → Prop} {g : Int → Int → V} (hf : ∀ i j d, f i j = some d → C i j ∧ ∀ ρ H n, RD K ρ H n d (g i j)) : Op2 K W (stepI f) (rI C g) := by
  intro σ ρ h H d e x y Q at_ rx ry p
  unfold stepI at p
  split at p
  · rename_i i j
    cases q : f i j with
    | none => rw [q] at p; exact p.elim
    | some d =>
      rw [q] at p
      obtain ⟨c, r⟩ := hf i j d q
      exact ⟨i, j, rx.1.int, ry.1.int, c, p ρ _ H at_.refl (r _ _ _)⟩
  · exact p.elim
theorem op2_int0 {f : Int → Int → Option D} {g : Int → Int → V} (hf : ∀ i j d, f i j = some d → ∀ ρ H n, RD K ρ H n d (g i j)) : Op2 K W (stepI f) (rI0 g) := by
  intro σ ρ h H d e x y Q at_ rx ry p
  obtain ⟨i, j, e1, e2, _, q⟩ := op2_int (C := fun _ _ => True) (g := g) (fun i j d q => ⟨trivial, hf i j d q⟩) σ ρ h H d e x y Q at_ rx ry p
  exact ⟨i, j, e1, e2, q⟩
theorem Op2.or {f f' : D → D → PH → Res D} {r r' : R2} {g : D → D → PH → Res D} (h1 : Op2 K W f r) (h2 : Op2 K W f' r') (hg : ∀ a b h, g a b h = f a b h ∨ g a b h = f' a b h) : Op2 K W g (fun x y H Q => r x y H Q ∨ r' x y H Q) := by
  intro σ ρ h H d e x y Q at_ rx ry p
  rcases hg d e h with q | q
  · rw [q] at p; exact .inl (h1 σ ρ h H d e x y Q at_ rx ry p)
  · rw [q] at p; exact .inr (h2 σ ρ h H d e x y Q at_ rx ry p)
def iAdd : D → D → PH → Res D := stepI fun i j => some (.int (i + j))
def subF : D → D → PH → Res D := stepI fun i j => some (.int (i - j))
def bitsOk (i j : Int) : Bool := Nat.ble (i.natAbs.log2 + j.natAbs.log2) 900000
def iMul : D → D → PH → Res D := stepI fun i j => if bitsOk i j then some (.int (i * j)) else none
def fdivF : D → D → PH → Res D := stepI fun i j => if 0 < j ∧ j.natAbs.log2 < 9000 then some (.int (i / j)) else none
def modF : D → D → PH → Res D := stepI fun i j => if 0 < j then some (.int (i % j)) else none
/-- bounds said by Nat.ble: the kernel leaves them alone under a stuck number -/
def powOk (i j : Int) : Bool := Nat.ble j.toNat 1000000 && Nat.ble i.natAbs 18446744073709551615
def shlOk (i j : Int) : Bool := Nat.ble j.toNat 1000000 && Nat.ble i.natAbs.log2 1000000
theorem powOk_iff {i j : Int} (z : 0 ≤ j) : powOk i j = true ↔ j ≤ 1000000 ∧ i.natAbs < 2 ^ 64 := by
  unfold powOk
  rw [Bool.and_eq_true, Nat.ble_eq, Nat.ble_eq]
  constructor <;> intro h <;> constructor <;> omega
theorem shlOk_iff {i j : Int} (z : 0 ≤ j) : shlOk i j = true ↔ j ≤ 1000000 ∧ i.natAbs.log2 ≤ 1000000 := by
  unfold shlOk
  rw [Bool.and_eq_true, Nat.ble_eq, Nat.ble_eq]
  constructor <;> intro h <;> constructor <;> omega
def powF : D → D → PH → Res D := stepI fun i j => if 0 ≤ j ∧ powOk i j = true then some (.int (i ^ j.toNat)) else none
def shlF : D → D → PH → Res D := stepI fun i j => if 0 ≤ j ∧ shlOk i j = true then some (.int (i * 2 ^ j.toNat)) else none
def shrF : D → D → PH → Res D := stepI fun i j => if 0 ≤ j then some (.int (i / 2 ^ j.toNat)) else none
theorem o_iadd : Op2 K W iAdd (rI0 fun i j => .int (i + j)) := op2_int0 fun i j d q _ _ _ => by cases q; exact is_int
theorem o_sub : Op2 K W subF (rI0 fun i j => .int (i - j)) := op2_int0 fun i j d q _ _ _ => by cases q; exact is_int
theorem lt_log2 (n : Nat) : n < 2 ^ (n.log2 + 1) := Nat.lt_log2_self
theorem o_imul : Op2 K W iMul (rI CMulW fun i j => .int (i * j)) := op2_int fun i j d q => by
  have q : (if bitsOk i j = true then some (D.int (i * j)) else none) = some d := q
  split at q
  · rename_i c
    cases q
    have c' : i.natAbs.log2 + j.natAbs.log2 ≤ 900000 := Nat.le_of_ble_eq_true c
    exact ⟨wide_mul (lt_log2 _) (lt_log2 _) (by omega) (by omega) (by omega), fun _ _ _ => is_int⟩
  · cases q
theorem o_fdiv : Op2 K W fdivF (rI CDivW fun i j => .int (i / j)) := op2_int fun i j d q => by
  have q : (if 0 < j ∧ j.natAbs.log2 < 9000 then some (D.int (i / j)) else none) = some d := q
  split at q
  · rename_i c
    cases q
    exact ⟨wide_div c.1 (lt_log2 _) (by omega) (by omega), fun _ _ _ => is_int⟩
  · cases q
theorem o_mod : Op2 K W modF (rI (fun _ j => 0 < j) fun i j => .int (i % j)) := op2_int fun i j d q => by
  have q : (if 0 < j then some (D.int (i % j)) else none) = some d := q
  split at q
  · rename_i c
    cases q
    exact ⟨c, fun _ _ _ => is_int⟩
  · cases q
theorem o_pow : Op2 K W powF (rI CPow fun i j => .int (i ^ j.toNat)) := op2_int fun i j d q => by
  have q : (if 0 ≤ j ∧ powOk i j = true then some (D.int (i ^ j.toNat)) else none) = some d := q
  split at q
  · rename_i c
    cases q
    exact ⟨⟨c.1, (powOk_iff c.1).mp c.2⟩, fun _ _ _ => is_int⟩
  · cases q
theorem shl_ok {i j : Int} (c : 0 ≤ j ∧ j ≤ 1000000 ∧ i.natAbs.log2 ≤ 1000000) : CShl i j := by
  refine ⟨c.1, ?_⟩
  have h1 : Builtin.Int.intBits i ≤ i.natAbs.log2 + 1 := by
    unfold Builtin.Int.intBits
    split <;> omega
  have h2 := c.2.1
  have h3 := c.2.2
  omega
theorem o_shl : Op2 K W shlF (rI CShl fun i j => .int (i * 2 ^ j.toNat)) := op2_int fun i j d q => by
  have q : (if 0 ≤ j ∧ shlOk i j = true then some (D.int (i * 2 ^ j.toNat)) else none) = some d := q
  split at q
  · rename_i c
    cases q
    exact ⟨shl_ok ⟨c.1, (shlOk_iff c.1).mp c.2⟩, fun _ _ _ => is_int⟩
  · cases q
theorem o_shr : Op2 K W shrF (rI (fun _ j => 0 ≤ j) fun i j => .int (i / 2 ^ j.toNat)) := op2_int fun i j d q => by
  have q : (if 0 ≤ j then some (D.int (i / 2 ^ j.toNat)) else none) = some d := q
  split at q
  · rename_i c
    cases q
    exact ⟨c, fun _ _ _ => is_int⟩
  · cases q

/-! ### + of texts, tuples, lists; * of lists -/
def sAdd : D → D → PH → Res D := fun a b h => match a, b with
  | .str x, .str y => if x.length + y.length ≤ 16777216 then .ok (.str (x ++ y)) h else .stuck
  | _, _ => .stuck
theorem o_sadd : Op2 K W sAdd (fun x y H Q => ∃ i j, x = .str i ∧ y = .str j ∧ i.length + j.length ≤ sizeLine ∧ Q (.str (i ++ j)) H) := by
  intro σ ρ h H d e x y Q at_ rx ry p
  unfold sAdd at p
  split at p
  · split at p
    · rename_i i j c
      exact ⟨i, j, rx.1.str, ry.1.str, by rw [sizeLine_eq]; exact c, p ρ _ H at_.refl is_str⟩
    · exact p.elim
  · exact p.elim
/-- the items of a list, wherever it stands -/
def itemsL (h : PH) : D → Option (List D)
  | .frl ds => some ds
  | .ref n => (match h.cs[n]? with
    | some (.lst ds) => some ds
    | _ => none)
  | _ => none
theorem itemsL_is {ρ : List Addr} {h : PH} {H : Hp} (x : At K ρ h H) {d : D} {v : V} {ds : List D} (e : itemsL h d = some ds) (r : RD K ρ H h.cs.length d v) :
    ∃ a xs, v = .ref a ∧ SqL K H a xs ∧ IsL K ρ H ds xs ∧ mrL ds ≤ h.cs.length := by
  cases d with
  | frl es =>
    have e' : some es = some ds := e
    cases e'
    obtain ⟨a, xs, h1, h2, h3⟩ := r.1.frl
    exact ⟨a, xs, h1, h2.sq, h3, r.2⟩
  | ref n =>
    have e' : (match h.cs[n]? with
    | some (.lst ds) => some ds
    | _ => none) = some ds := e
    split at e'
    · rename_i es q
      cases e'
      obtain ⟨a, xs, h1, _, h2, h3, h4⟩ := x.lst q r.1
      exact ⟨a, xs, h1, SqL.of h2, h3, h4⟩
    · cases e'
  | _ => cases e
/-- the items of a list or a tuple -/
def itemsS (h : PH) : D → Option (List D)
  | .tup ds => some ds
  | d => itemsL h d
def refLst (h : PH) : D → Option (Nat × List D)
  | .ref n => (match h.cs[n]? with
    | some (.lst ds) => some (n, ds)
    | _ => none)
  | _ => none
theorem refLst_is {ρ : List Addr} {h : PH} {H : Hp} (x : At K ρ h H) {d : D} {v : V} {n : Nat} {ds : List D} (e : refLst h d = some (n, ds)) (r : RD K ρ H h.cs.length d v) :
    d = .ref n ∧ h.cs[n]? = some (.lst ds) ∧ ∃ a xs, v = .ref a ∧ ρ[n]? = some a ∧ H a = some (.lst xs) ∧ IsL K ρ H ds xs ∧ mrL ds ≤ h.cs.length := by
  cases d with
  | ref m =>
    have e' : (match h.cs[m]? with
    | some (.lst ds) => some (m, ds)
    | _ => none) = some (n, ds) := e
    split at e'
    · rename_i es q
      cases e'
      exact ⟨rfl, q, x.lst q r.1⟩
    · cases e'
  | _ => cases e
/-- a new list of given items: the end of an operation -/
theorem push_lst {ρ : List Addr} {h : PH} {H : Hp} (x : At K ρ h H) {ds : List D} {xs : List V} (i : IsL K ρ H ds xs) (l : mrL ds ≤ h.cs.length) {p : Addr} (hp : H p = none) :
    ∃ ρ', Ext K ρ H (h.push (.lst ds)) ρ' (upd H p (.lst xs)) ∧ RD K ρ' (upd H p (.lst xs)) (h.push (.lst ds)).cs.length (.ref h.cs.length) (.ref p) := by
  refine ⟨ρ ++ [p], Ext.push x.heap x.wf hp l fun H' e k => ⟨xs, e, IsL.mono k ρ.length (fun i hi a ha => by rw [List.getElem?_append_left hi]; exact ha) ds xs (by rw [x.heap.len]; exact l) i⟩, ?_, ?_⟩
  · unfold Is
    exact ⟨p, by rw [← x.heap.len, List.getElem?_append_right (Nat.le_refl _), Nat.sub_self]; rfl, rfl⟩
  · unfold D.mr
    show _ ≤ (h.cs ++ [Cell.lst ds]).length
    rw [List.length_append]; exact Nat.le_refl _
/-- a new tuple -/
theorem push_tup {ρ : List Addr} {h : PH} {H : Hp} (x : At K ρ h H) {ds : List D} {xs : List V} (i : IsL K ρ H ds xs) (l : mrL ds ≤ h.cs.length) {p : Addr} (hp : H p = none) :
    Ext K ρ H h ρ (upd H p (.tup xs)) ∧ RD K ρ (upd H p (.tup xs)) h.cs.length (.tup ds) (.ref p) := by
  have e := Ext.obj (o := .tup xs) x.heap x.wf hp
  refine ⟨e, ?_, l⟩
  unfold Is
  exact ⟨p, xs, rfl, SqT.of upd_same, e.isL (by rw [x.heap.len]; exact l) i⟩
def newL (ds : List D) (h : PH) : Res D := .ok (.ref h.cs.length) (h.push (.lst ds))
def lAdd : D → D → PH → Res D := fun a b h => match refLst h a, refLst h b with
  | some (_, xs), some (_, ys) => if xs.length + ys.length ≤ 16777216 then newL (xs ++ ys) h else .stuck
  | _, _ => .stuck
theorem o_ladd : Op2 K W lAdd rCat := by
  intro σ ρ h H d e x y Q at_ rx ry p
  unfold lAdd at p
  split at p
  · rename_i n ds m es q1 q2
    split at p
    · rename_i c
      obtain ⟨_, _, a, xs, rfl, _, h1, i1, l1⟩ := refLst_is at_ q1 rx
      obtain ⟨_, _, b, ys, rfl, _, h2, i2, l2⟩ := refLst_is at_ q2 ry
      refine ⟨a, b, xs, ys, rfl, rfl, h1, h2, by rw [sizeLine_eq, i1.length, i2.length]; exact c, fun q hq => ?_⟩
      obtain ⟨ρ', e1, e2⟩ := push_lst at_ (i1.append i2) (by rw [mrL_append]; omega) hq
      exact p ρ' _ _ e1 e2
    · exact p.elim
  · exact p.elim
def tAddF : D → D → PH → Res D := fun a b h => match a, b with
  | .tup xs, .tup ys => if xs.length + ys.length ≤ 16777216 then .ok (.tup (xs ++ ys)) h else .stuck
  | _, _ => .stuck
theorem IsL.nil {ρ : List Addr} {H : Hp} {xs : List V} (h : IsL K ρ H [] xs) : xs = [] := by unfold IsL at h; exact h
theorem IsL.ne {ρ : List Addr} {H : Hp} {d : D} {ds : List D} {xs : List V} (h : IsL K ρ H (d :: ds) xs) : xs ≠ [] := by
  unfold IsL at h
  obtain ⟨x, r, rfl, _⟩ := h
  exact fun z => by cases z
theorem IsL.nil_of {ρ : List Addr} {H : Hp} {ds : List D} (h : IsL K ρ H ds []) : ds = [] := by
  cases ds with
  | nil => rfl
  | cons d ds => exact absurd rfl h.ne
theorem o_tadd : Op2 K W tAddF (rCatA K) := by
  intro σ ρ h H d e x y Q at_ rx ry p
  unfold tAddF at p
  split at p
  · rename_i ds es
    split at p
    · rename_i c
      obtain ⟨a, xs, rfl, s1, i1⟩ := rx.1.tup
      obtain ⟨b, ys, rfl, s2, i2⟩ := ry.1.tup
      have l1 : mrL ds ≤ h.cs.length := rx.2
      have l2 : mrL es ≤ h.cs.length := ry.2
      refine ⟨a, b, xs, ys, rfl, rfl, s1, s2, by rw [sizeLine_eq, i1.length, i2.length]; exact c, fun z => ?_, fun _ z => ?_, fun _ _ q hq => ?_⟩
      · subst z
        have ez := i1.nil_of
        subst ez
        exact p ρ (.ref b) H at_.refl ry
      · subst z
        have ez := i2.nil_of
        subst ez
        refine p ρ (.ref a) H at_.refl ⟨?_, ?_⟩
        · rw [List.append_nil]; exact rx.1
        · rw [List.append_nil]; exact rx.2
      · obtain ⟨e1, e2⟩ := push_tup at_ (i1.append i2) (by rw [mrL_append]; omega) hq
        exact p ρ _ _ e1 e2
    · exact p.elim
  · exact p.elim
/-- + -/
def addF : D → D → PH → Res D := fun a b h => match a with
  | .int _ => iAdd a b h
  | .str _ => sAdd a b h
  | .tup _ => tAddF a b h
  | _ => lAdd a b h
theorem o_add : Op2 K W addF (fun x y H Q => (rI0 fun i j => .int (i + j)) x y H Q ∨ (fun x y H Q => (∃ i j, x = .str i ∧ y = .str j ∧ i.length + j.length ≤ sizeLine ∧ Q (.str (i ++ j)) H)) x y H Q ∨ rCatA K x y H Q ∨ rCat x y H Q) := by
  intro σ ρ h H d e x y Q at_ rx ry p
  cases d with
  | int i => exact .inl (o_iadd σ ρ h H _ e x y Q at_ rx ry p)
  | str i => exact .inr (.inl (o_sadd σ ρ h H _ e x y Q at_ rx ry p))
  | tup i => exact .inr (.inr (.inl (o_tadd σ ρ h H _ e x y Q at_ rx ry p)))
  | _ => exact .inr (.inr (.inr (o_ladd σ ρ h H _ e x y Q at_ rx ry p)))
/-- a list, a tuple some times -/
def lRep : D → D → PH → Res D := fun a b h => match refLst h a, b with
  | some (_, xs), .int k => if -(2 ^ 63) ≤ k ∧ k < 2 ^ 63 ∧ xs.length * k.toNat ≤ 16777216 then newL (List.replicate k.toNat xs).flatten h else .stuck
  | _, _ => .stuck
theorem IsL.rep {ρ : List Addr} {H : Hp} {ds : List D} {xs : List V} (h : IsL K ρ H ds xs) : ∀ n, IsL K ρ H (List.replicate n ds).flatten (List.replicate n xs).flatten
  | 0 => by show IsL K ρ H [] []; unfold IsL; rfl
  | n + 1 => by
    rw [List.replicate_succ, List.replicate_succ, List.flatten_cons, List.flatten_cons]
    exact h.append (IsL.rep h n)
theorem mrL_rep {ds : List D} : ∀ n, mrL (List.replicate n ds).flatten ≤ mrL ds
  | 0 => Nat.zero_le _
  | n + 1 => by
    rw [List.replicate_succ, List.flatten_cons, mrL_append]
    have := mrL_rep (ds := ds) n; omega
theorem o_lrep : Op2 K W lRep rRep := by
  intro σ ρ h H d e x y Q at_ rx ry p
  unfold lRep at p
  split at p
  · rename_i n ds k q1
    split at p
    · rename_i c
      obtain ⟨_, _, a, xs, rfl, _, h1, i1, l1⟩ := refLst_is at_ q1 rx
      refine ⟨a, k, xs, rfl, ry.1.int, h1, c.1, c.2.1, by rw [sizeLine_eq, i1.length]; exact c.2.2, fun q hq => ?_⟩
      obtain ⟨ρ', e1, e2⟩ := push_lst at_ (i1.rep k.toNat) (Nat.le_trans (mrL_rep _) l1) hq
      exact p ρ' _ _ e1 e2
    · exact p.elim
  · exact p.elim
/-- a tuple some times: to five thousand -/
def rRepW (K : PySem.W.Frag) : R2 := fun x y H Q => ∃ a n zs, x = .ref a ∧ y = .int n ∧ SqT K H a zs ∧ 0 < zs.length ∧ zs.length ≤ 1000 ∧ 2 ≤ n ∧ n ≤ 5000 ∧ ∀ p, H p = none → Q (.ref p) (upd H p (.tup (List.replicate n.toNat zs).flatten))
theorem rep_room {a n : Nat} (ha : a ≤ 1000) (hn : n ≤ 5000) : n * a ≤ 5000000 := Nat.le_trans (Nat.mul_le_mul hn ha) (by decide)
theorem op_repW {X : Cx} : OpR X (binaryOp .Mult) (rRepW X.K) := by
  intro pins s σ H x y v u Q I rx ry ⟨a, n, zs, ex, ey, sq, l0, l1, n0, n1, q⟩
  subst ex; subst ey
  obtain rfl : v = Value.ref a := rx
  obtain ⟨t, rfl⟩ := ry
  obtain ⟨vs, rel, ⟨⟨oc, od, dt, osl⟩, at_, isT, cap, isD⟩, _⟩ := I.tuple sq
  have isT : oc = .type "tuple" := isT
  have isD : dt = .seq vs.toArray cap := isD
  subst isT; subst isD
  have len : vs.length = zs.length := rel.length.symm
  have sz : vs.toArray.size = zs.length := len
  have emp : vs.toArray.isEmpty = false := by
    cases vs with
    | nil => rw [← len] at l0; exact absurd l0 (Nat.lt_irrefl 0)
    | cons _ _ => rfl
  obtain ⟨m, rfl⟩ := Int.eq_ofNat_of_zero_le (show (0 : Int) ≤ n by omega)
  have room := rep_room (a := zs.length) (n := m) l1 (by omega)
  have fl : (List.replicate m vs).flatten.length ≤ sizeLine := by
    rw [PyProof.Rows.lm_len_rep_flat, len, sizeLine_eq]
    exact Nat.le_trans room (by decide)
  have fold : List.foldl (fun x1 x2 => x1 ++ x2) #[] (List.replicate m vs.toArray) = (List.replicate m vs).flatten.toArray := size_rep vs m
  have big : ((vs.toArray.size : Nat) : Int) * (m : Int) ≤ 5000000 := by
    rw [sz]
    have : ((m * zs.length : Nat) : Int) ≤ 5000000 := by omega
    rw [Int.natCast_mul, Int.mul_comm] at this
    exact this
  have w := tuple_mulW a vs.toArray cap od osl (m : Int) t (by simp; omega) (by rw [emp, Bool.false_or]; exact beq_eq_false_iff_ne.mpr (by omega)) (by rw [emp, Bool.or_false]; exact decide_eq_false (by omega)) (fun z => by omega)
    (by unfold Builtin.Tuple.tupleTooMany; rw [sizeLine_eq]; exact decide_eq_false (by omega)) (by rw [Int.toNat_natCast, fold]; exact fl)
  rw [Int.toNat_natCast, fold] at w
  have fresh := I.hok.fresh (Nat.le_refl s.heap.objs.size)
  have ty : s.TypeIs (.ref a) "tuple" := ⟨_, at_, rfl⟩
  refine wpAny_binaryOp_repeat_ref (T := "tuple") (U := "int") (by decide) ty (fun s' => typeIs_int s' _ t) noFill_tuple_mul F.fills_int_mul F.slot_int_rmul repeat_tuple F.slot_int_index.lookup ?_
  refine call_meets F.slot_int_rmul (typeIs_int s _ t) F.entry_int_rmul (F.args_int_rmul_2 _ _) (int_rmul_tuple _ t a vs.toArray cap od osl) ⟨at_, rfl, ty, ?_⟩
  refine call_meets F.slot_tuple_mul ty F.entry_tuple_mul (F.args_tuple_mul_2 _ _) w ⟨at_, ?_⟩
  exact ⟨.ref s.heap.objs.size, _, I.laid (t' := s.toks) (o := .tup (List.replicate m zs).flatten) (fun _ _ z => Heap.get?_push_of_some _ z) (Nat.le_refl _) ⟨by rw [← (rel.rep m).length] at fl; exact fl, _, rel.rep m, IsTup.new _ _⟩, rfl, q _ fresh⟩
def tRep : D → D → PH → Res D := fun a b h => match a, b with
  | .tup (x :: xs), .int k => if 2 ≤ k ∧ k ≤ 5000 ∧ (x :: xs).length ≤ 1000 then .ok (.tup (List.replicate k.toNat (x :: xs)).flatten) h else .stuck
  | _, _ => .stuck
theorem o_trep : Op2 K W tRep (rRepW K) := by
  intro σ ρ h H d e x y Q at_ rx ry p
  unfold tRep at p
  split at p
  · rename_i d ds k
    split at p
    · rename_i c
      obtain ⟨a, xs, rfl, s1, i1⟩ := rx.1.tup
      refine ⟨a, k, xs, rfl, ry.1.int, s1, by rw [i1.length]; exact Nat.zero_lt_succ _, by rw [i1.length]; exact c.2.2, c.1, c.2.1, fun q hq => ?_⟩
      obtain ⟨e1, e2⟩ := push_tup at_ (i1.rep k.toNat) (Nat.le_trans (mrL_rep _) rx.2) hq
      exact p ρ _ _ e1 e2
    · exact p.elim
  · exact p.elim
/-- a text some times -/
def repS (x : Str) (n : Nat) : Str := ⟨(List.replicate n x.cps).foldl (· ++ ·) #[]⟩
def rRepS : R2 := fun x y H Q => ∃ (i : Str) (k : Int), x = .str i ∧ y = .int k ∧ ((2 ≤ k ∧ k ≤ 1000 ∧ 1 ≤ i.length ∧ i.length ≤ 1000 ∧ (repS i k.toNat).length ≤ sizeLine ∧ Q (.str (repS i k.toNat)) H) ∨ (k = 1 ∧ Q (.str i) H) ∨ (k = 0 ∧ Q (.str Str.empty) H))
theorem op_repS {X : Cx} : OpR X (binaryOp .Mult) rRepS := by
  intro pins s σ H x y v u Q I rx ry h
  obtain ⟨i, k, rfl, rfl, h⟩ := h
  obtain ⟨t, rfl⟩ := rx
  obtain ⟨t', rfl⟩ := ry
  rcases h with h | ⟨rfl, q⟩ | ⟨rfl, q⟩
  rotate_left
  · refine PySem.P.mul_str rfl (fun _ a => by simp at a) (fun _ a => by simp at a) ?_
    rw [if_neg (by omega), if_pos (by simp)]
    exact ⟨.str i, H, I, ⟨_, rfl⟩, q⟩
  · exact PySem.P.mul_str_none (by omega) (by omega) ⟨.str Str.empty, H, I.tok _, ⟨_, rfl⟩, q⟩
  obtain ⟨k1, k2, z1, z2, hz, q⟩ := h
  have hm : i.length * k.toNat ≤ 1000 * 1000 := Nat.mul_le_mul z2 (by omega)
  refine PySem.P.mul_str (by rw [decide_eq_false (by omega), decide_eq_false (by omega)]; rfl) (fun _ _ => ?_) (fun _ _ => ?_) ?_
  · have m2 : (i.length : Int) * k ≤ 2 ^ 63 - 1 := by
      have e : ((i.length * k.toNat : Nat) : Int) = (i.length : Int) * k := by rw [Int.natCast_mul, Int.toNat_of_nonneg (by omega)]
      omega
    have := Int.le_ediv_of_mul_le (show 0 < k by omega) m2
    omega
  · show PySem.Builtin.Str.tooLong (i.length * k.toNat) = false
    unfold PySem.Builtin.Str.tooLong
    exact decide_eq_false (by rw [sizeLine_eq]; omega)
  · rw [if_neg (by omega), if_neg (by simp; omega)]
    exact ⟨hz, .str (repS i k.toNat), H, I.tok _, ⟨_, rfl⟩, q⟩
def sRep : D → D → PH → Res D := fun a b h => match a, b with
  | .str x, .int k => if 2 ≤ k ∧ k ≤ 1000 ∧ 1 ≤ x.length ∧ x.length ≤ 1000 ∧ (repS x k.toNat).length ≤ 16777216 then .ok (.str (repS x k.toNat)) h else if k = 1 then .ok (.str x) h else if k = 0 then .ok (.str Str.empty) h else .stuck
  | _, _ => .stuck
theorem o_srep : Op2 K W sRep rRepS := by
  intro σ ρ h H d e x y Q at_ rx ry p
  unfold sRep at p
  split at p
  · rename_i i k
    split at p
    · rename_i c
      obtain ⟨c1, c2, c3, c4, c5⟩ := c
      exact ⟨i, k, rx.1.str, ry.1.int, .inl ⟨c1, c2, c3, c4, by rw [sizeLine_eq]; exact c5, p ρ _ H at_.refl is_str⟩⟩
    · split at p
      · rename_i c
        exact ⟨i, k, rx.1.str, ry.1.int, .inr (.inl ⟨c, p ρ _ H at_.refl is_str⟩)⟩
      · split at p
        · rename_i c
          exact ⟨i, k, rx.1.str, ry.1.int, .inr (.inr ⟨c, p ρ _ H at_.refl is_str⟩)⟩
        · exact p.elim
  · exact p.elim
def mulF : D → D → PH → Res D := fun a b h => match a with
  | .int _ => iMul a b h
  | .tup _ => tRep a b h
  | .str _ => sRep a b h
  | _ => lRep a b h
theorem o_mul : Op2 K W mulF (fun x y H Q => (rI CMulW fun i j => .int (i * j)) x y H Q ∨ rRepW K x y H Q ∨ rRepS x y H Q ∨ rRep x y H Q) := by
  intro σ ρ h H d e x y Q at_ rx ry p
  cases d with
  | int i => exact .inl (o_imul σ ρ h H _ e x y Q at_ rx ry p)
  | tup i => exact .inr (.inl (o_trep σ ρ h H _ e x y Q at_ rx ry p))
  | str i => exact .inr (.inr (.inl (o_srep σ ρ h H _ e x y Q at_ rx ry p)))
  | _ => exact .inr (.inr (.inr (o_lrep σ ρ h H _ e x y Q at_ rx ry p)))
/-- -a -/
def negF : D → PH → Res D := fun a h => match a with
  | .int i => .ok (.int (-i)) h
  | _ => .stuck
theorem o_neg : Op1 K W negF (rU fun i => .int (-i)) := by
  intro σ ρ h H d x Q at_ rx p
  unfold negF at p
  split at p
  · rename_i i
    exact ⟨i, rx.1.int, p ρ _ H at_.refl is_int⟩
  · exact p.elim

/-! ### comparisons -/
def intB (f : Int → Int → Bool) : D → D → PH → Res D := stepI fun i j => some (.bl (f i j))
theorem o_intB {f : Int → Int → Bool} : Op2 K W (intB f) (rI0 fun i j => .bl (f i j)) := op2_int0 fun i j d q _ _ _ => by cases q; exact is_bl
/-- the ints of a list -/
def intsOf : List D → Option (List Int)
  | [] => some []
  | .int i :: r => (match intsOf r with
    | some l => some (i :: l)
    | none => none)
  | _ :: _ => none
theorem intsOf_is {ρ : List Addr} {H : Hp} : ∀ {ds : List D} {ns : List Int} {xs : List V}, intsOf ds = some ns → IsL K ρ H ds xs → xs = ns.map V.int
  | [], ns, xs, e, h => by cases e; exact h.nil
  | d :: ds, ns, xs, e, h => by
    unfold IsL at h
    obtain ⟨x, r, rfl, h1, h2⟩ := h
    cases d with
    | int i =>
      have e' : (match intsOf ds with | some l => some (i :: l) | none => none) = some ns := e
      cases q : intsOf ds with
      | none => rw [q] at e'; cases e'
      | some l =>
        rw [q] at e'
        cases e'
        rw [h1.int, intsOf_is q h2]; rfl
    | _ => cases e
def ltT : D → D → PH → Res D := fun a b h => match a, b with
  | .tup xs, .tup ys => (match intsOf xs, intsOf ys with
    | some ns, some ms => .ok (.bl (HT.lexLt ns ms)) h
    | _, _ => .stuck)
  | _, _ => .stuck
theorem o_ltT : Op2 K W ltT (rLtT K) := by
  intro σ ρ h H d e x y Q at_ rx ry p
  unfold ltT at p
  split at p
  · split at p
    · rename_i ns ms q1 q2
      obtain ⟨a, xs, rfl, s1, i1⟩ := rx.1.tup
      obtain ⟨b, ys, rfl, s2, i2⟩ := ry.1.tup
      have z1 := intsOf_is q1 i1
      have z2 := intsOf_is q2 i2
      subst z1; subst z2
      exact ⟨a, b, ns, ms, rfl, rfl, s1, s2, p ρ _ H at_.refl is_bl⟩
    · exact p.elim
  · exact p.elim
def ltF : D → D → PH → Res D := fun a b h => match a with
  | .int _ => intB (fun i j => decide (i < j)) a b h
  | _ => ltT a b h
theorem o_lt : Op2 K W ltF (fun x y H Q => (rI0 fun i j => .bl (decide (i < j))) x y H Q ∨ rLtT K x y H Q) := by
  intro σ ρ h H d e x y Q at_ rx ry p
  cases d with
  | int i => exact .inl (o_intB σ ρ h H _ e x y Q at_ rx ry p)
  | _ => exact .inr (o_ltT σ ρ h H _ e x y Q at_ rx ry p)
def leF : D → D → PH → Res D := intB fun i j => decide (i ≤ j)
def gtF : D → D → PH → Res D := intB fun i j => decide (j < i)
def geF : D → D → PH → Res D := intB fun i j => decide (j ≤ i)

/-! ### data -/
mutual
def toPyG (f : Nat → Option PyData) : D → Option PyData
  | .non => some .none
  | .bl b => some (.bool b)
  | .int i => some (.int i)
  | .str x => some (.str x)
  | .tup ds => (match toPyL f ds with
    | some ps => some (.tuple ps)
    | none => none)
  | .frl ds => (match toPyL f ds with
    | some ps => some (.list ps)
    | none => none)
  | .ref n => f n
  | .ty _ => none
  | .glb _ => none
def toPyL (f : Nat → Option PyData) : List D → Option (List PyData)
  | [] => some []
  | d :: ds => (match toPyG f d with
    | some p => (match toPyL f ds with
      | some ps => some (p :: ps)
      | none => none)
    | none => none)
end
def cellPy (h : PH) : Nat → Nat → Option PyData
  | 0, _ => none
  | k + 1, n => (match h.cs[n]? with
    | some (.lst ds) => (match toPyL (cellPy h k) ds with
      | some ps => some (.list ps)
      | none => none)
    | _ => none)
def toPy (h : PH) (d : D) : Option PyData := toPyG (cellPy h 3) d
mutual
theorem toPyG_is {ρ : List Addr} {H : Hp} {f : Nat → Option PyData} (hf : ∀ n p a, f n = some p → ρ[n]? = some a → Dp K H (.ref a) p) : ∀ (d : D) (p : PyData) (v : V), toPyG f d = some p → Is K ρ H d v → Dp K H v p
  | .non, p, v, e, h => by unfold toPyG at e; cases e; rw [h.non]; exact .non
  | .bl b, p, v, e, h => by unfold toPyG at e; cases e; rw [h.bl]; exact .bl b
  | .int i, p, v, e, h => by unfold toPyG at e; cases e; rw [h.int]; exact .int i
  | .str x, p, v, e, h => by unfold toPyG at e; cases e; rw [h.str]; exact .str x
  | .tup ds, p, v, e, h => by
    unfold toPyG at e
    obtain ⟨a, xs, rfl, s, i⟩ := h.tup
    split at e
    · rename_i ps q
      cases e
      exact .tup s (toPyL_is hf ds ps xs q i)
    · cases e
  | .frl ds, p, v, e, h => by
    unfold toPyG at e
    obtain ⟨a, xs, rfl, s, i⟩ := h.frl
    split at e
    · rename_i ps q
      cases e
      exact .lst s.sq (toPyL_is hf ds ps xs q i)
    · cases e
  | .ref n, p, v, e, h => by
    unfold toPyG at e
    obtain ⟨a, ha, rfl⟩ := h.ref
    exact hf n p a e ha
  | .ty _, p, v, e, h => by unfold toPyG at e; cases e
  | .glb _, p, v, e, h => by unfold toPyG at e; cases e
theorem toPyL_is {ρ : List Addr} {H : Hp} {f : Nat → Option PyData} (hf : ∀ n p a, f n = some p → ρ[n]? = some a → Dp K H (.ref a) p) : ∀ (ds : List D) (ps : List PyData) (xs : List V), toPyL f ds = some ps → IsL K ρ H ds xs → DpAll K H xs ps
  | [], ps, xs, e, h => by unfold toPyL at e; cases e; rw [h.nil]; exact .nil
  | d :: ds, ps, xs, e, h => by
    unfold toPyL at e
    unfold IsL at h
    obtain ⟨x, r, rfl, h1, h2⟩ := h
    split at e
    · rename_i p q1
      split at e
      · rename_i qs q2
        cases e
        exact .cons (toPyG_is hf d p x q1 h1) (toPyL_is hf ds qs r q2 h2)
      · cases e
    · cases e
end
theorem cellPy_is {ρ : List Addr} {h : PH} {H : Hp} (x : At K ρ h H) : ∀ k n p a, cellPy h k n = some p → ρ[n]? = some a → Dp K H (.ref a) p
  | 0, n, p, a, e, _ => by cases e
  | k + 1, n, p, a, e, ha => by
    unfold cellPy at e
    split at e
    · rename_i ds q
      split at e
      · rename_i ps q2
        cases e
        obtain ⟨xs, h1, h2⟩ := x.heap.at_ n _ a q ha
        exact .lst (SqL.of h1) (toPyL_is (cellPy_is x k) ds ps xs q2 h2)
      · cases e
    · cases e
theorem toPy_is {ρ : List Addr} {h : PH} {H : Hp} (x : At K ρ h H) {d : D} {p : PyData} {v : V} (e : toPy h d = some p) (i : Is K ρ H d v) : Dp K H v p := toPyG_is (cellPy_is x 3) d p v e i
def eqD (h : PH) (a b : D) : Option Bool := match toPy h a with
  | some p => (match toPy h b with
    | some q => if SeqAt.shaped p = true ∧ SeqAt.shaped q = true then some (PyData.eqv p q) else none
    | none => none)
  | none => none
def eqB (a b : D) (h : PH) : Option Bool := match a, b with
  | .int i, .int j => some (decide (i = j))
  | .str i, .str j => some (decide (i = j))
  | .bl i, .bl j => some (decide (i = j))
  | a, b => eqD h a b
theorem eqB_is {ρ : List Addr} {h : PH} {H : Hp} (at_ : At K ρ h H) {a b : D} {x y : V} {c : Bool} (e : eqB a b h = some c) (rx : RD K ρ H h.cs.length a x) (ry : RD K ρ H h.cs.length b y) :
    (scal x y = true ∧ c = decide (x = y)) ∨ ∃ d e, Dp K H x d ∧ Dp K H y e ∧ SeqAt.shaped d = true ∧ SeqAt.shaped e = true ∧ c = PyData.eqv d e := by
  unfold eqB at e
  split at e
  · rename_i i j
    cases e
    rw [rx.1.int, ry.1.int]
    refine .inl ⟨rfl, ?_⟩
    rw [dec_int, Bool.beq_eq_decide_eq]
  · rename_i i j
    cases e
    rw [rx.1.str, ry.1.str]
    refine .inl ⟨rfl, ?_⟩
    rw [dec_str, Bool.beq_eq_decide_eq]
  · rename_i i j
    cases e
    rw [rx.1.bl, ry.1.bl]
    refine .inl ⟨rfl, ?_⟩
    rw [dec_bl, Bool.beq_eq_decide_eq]
  · unfold eqD at e
    split at e
    · rename_i p q1
      split at e
      · rename_i q q2
        split at e
        · rename_i c
          cases e
          exact .inr ⟨p, q, toPy_is at_ q1 rx.1, toPy_is at_ q2 ry.1, c.1, c.2, rfl⟩
        · cases e
      · cases e
    · cases e
def eqF : D → D → PH → Res D := fun a b h => match eqB a b h with
  | some c => .ok (.bl c) h
  | none => .stuck
def neF : D → D → PH → Res D := fun a b h => match eqB a b h with
  | some c => .ok (.bl (!c)) h
  | none => .stuck
theorem o_eq : Op2 K W eqF (fun x y H Q => rEq x y H Q ∨ rEqD K x y H Q) := by
  intro σ ρ h H d e x y Q at_ rx ry p
  unfold eqF at p
  split at p
  · rename_i c q
    rcases eqB_is at_ q rx ry with ⟨h1, h2⟩ | ⟨d, e, h1, h2, h3, h4, h5⟩
    · subst h2
      exact .inl ⟨h1, p ρ _ H at_.refl is_bl⟩
    · subst h5
      exact .inr ⟨d, e, h1, h2, h3, h4, p ρ _ H at_.refl is_bl⟩
  · exact p.elim
theorem o_ne : Op2 K W neF (fun x y H Q => rNe x y H Q ∨ rNeD K x y H Q) := by
  intro σ ρ h H d e x y Q at_ rx ry p
  unfold neF at p
  split at p
  · rename_i c q
    rcases eqB_is at_ q rx ry with ⟨h1, h2⟩ | ⟨d, e, h1, h2, h3, h4, h5⟩
    · subst h2
      exact .inl ⟨h1, p ρ _ H at_.refl is_bl⟩
    · subst h5
      exact .inr ⟨d, e, h1, h2, h3, h4, p ρ _ H at_.refl is_bl⟩
  · exact p.elim

/-! ### is None -/
def isNonD : D → Bool
  | .non => true
  | _ => false
def isF : D → D → PH → Res D := fun a b h => match b with
  | .non => .ok (.bl (isNonD a)) h
  | _ => .stuck
def isNotF : D → D → PH → Res D := fun a b h => match b with
  | .non => .ok (.bl (!isNonD a)) h
  | _ => .stuck
theorem isNonD_is {ρ : List Addr} {H : Hp} {d : D} {v : V} (h : Is K ρ H d v) : decide (v = .non) = isNonD d := by
  cases d with
  | non => rw [h.non]; rfl
  | int i => rw [h.int]; rfl
  | bl i => rw [h.bl]; rfl
  | str i => rw [h.str]; rfl
  | tup i => obtain ⟨_, _, rfl, _⟩ := h.tup; rfl
  | frl i => obtain ⟨_, _, rfl, _⟩ := h.frl; rfl
  | ref i => obtain ⟨_, _, rfl⟩ := h.ref; rfl
  | ty i => unfold Is at h; rw [h]; rfl
  | glb i => unfold Is at h; rw [h]; rfl
theorem o_is : Op2 K W isF (fun x y H Q => y = .non ∧ Q (.bl (decide (x = .non))) H) := by
  intro σ ρ h H d e x y Q at_ rx ry p
  unfold isF at p
  split at p
  · refine ⟨ry.1.non, ?_⟩
    rw [isNonD_is rx.1]
    exact p ρ _ H at_.refl is_bl
  · exact p.elim
theorem o_isNot : Op2 K W isNotF (fun x y H Q => y = .non ∧ Q (.bl (!decide (x = .non))) H) := by
  intro σ ρ h H d e x y Q at_ rx ry p
  unfold isNotF at p
  split at p
  · refine ⟨ry.1.non, ?_⟩
    rw [isNonD_is rx.1]
    exact p ρ _ H at_.refl is_bl
  · exact p.elim

/-! ### in -/
def flatD : D → Bool
  | .non => true
  | .bl _ => true
  | .int _ => true
  | .str _ => true
  | _ => false
def eqFl : D → D → Bool
  | .non, .non => true
  | .bl a, .bl b => a == b
  | .bl a, .int b => (if a then 1 else 0) == b
  | .int a, .bl b => a == (if b then 1 else 0)
  | .int a, .int b => a == b
  | .str a, .str b => a == b
  | _, _ => false
def strIn (x y : Str) : Bool := !(Builtin.Str.occurrences y x 0 y.length 1).isEmpty
theorem flat_is {ρ : List Addr} {H : Hp} {d : D} {v : V} (f : flatD d = true) (h : Is K ρ H d v) : flatV v = true := by
  cases d with
  | non => rw [h.non]; rfl
  | int i => rw [h.int]; rfl
  | bl i => rw [h.bl]; rfl
  | str i => rw [h.str]; rfl
  | _ => cases f
theorem flat_isL {ρ : List Addr} {H : Hp} : ∀ {ds : List D} {xs : List V}, ds.all flatD = true → IsL K ρ H ds xs → xs.all flatV = true
  | [], xs, _, h => by rw [h.nil]; rfl
  | d :: ds, xs, f, h => by
    unfold IsL at h
    obtain ⟨x, r, rfl, h1, h2⟩ := h
    rw [List.all_cons, Bool.and_eq_true] at f ⊢
    exact ⟨flat_is f.1 h1, flat_isL f.2 h2⟩
theorem eqFl_is {ρ : List Addr} {H : Hp} {d e : D} {v u : V} (f : flatD d = true) (g : flatD e = true) (h : Is K ρ H d v) (k : Is K ρ H e u) : eqV v u = eqFl d e := by
  cases d with
  | non => rw [h.non]; cases e with
    | non => rw [k.non]; rfl
    | int j => rw [k.int]; rfl
    | bl j => rw [k.bl]; rfl
    | str j => rw [k.str]; rfl
    | _ => cases g
  | int i => rw [h.int]; cases e with
    | non => rw [k.non]; rfl
    | int j => rw [k.int]; rfl
    | bl j => rw [k.bl]; rfl
    | str j => rw [k.str]; rfl
    | _ => cases g
  | bl i => rw [h.bl]; cases e with
    | non => rw [k.non]; rfl
    | int j => rw [k.int]; rfl
    | bl j => rw [k.bl]; rfl
    | str j => rw [k.str]; rfl
    | _ => cases g
  | str i => rw [h.str]; cases e with
    | non => rw [k.non]; rfl
    | int j => rw [k.int]; rfl
    | bl j => rw [k.bl]; rfl
    | str j => rw [k.str]; rfl
    | _ => cases g
  | _ => cases f
theorem inV_is {ρ : List Addr} {H : Hp} {e : D} {u : V} (g : flatD e = true) (k : Is K ρ H e u) : ∀ {ds : List D} {xs : List V}, ds.all flatD = true → IsL K ρ H ds xs → inV u xs = ds.any fun d => eqFl d e
  | [], xs, _, h => by rw [h.nil]; rfl
  | d :: ds, xs, f, h => by
    unfold IsL at h
    obtain ⟨x, r, rfl, h1, h2⟩ := h
    rw [List.all_cons, Bool.and_eq_true] at f
    unfold inV
    rw [List.any_cons, List.any_cons, eqFl_is f.1 g h1 k]
    have := inV_is g k f.2 h2
    unfold inV at this
    rw [this]
/-- is a in b -/
def inB (a b : D) (h : PH) : Option Bool := match b with
  | .str y => (match a with
    | .str x => some (strIn x y)
    | _ => none)
  | b => (match itemsS h b with
    | some ds => if flatD a = true ∧ ds.all flatD = true then some (ds.any fun d => eqFl d a) else
        (match toPy h a, toPy h b with
        | some p, some (.list ps) => if SeqAt.shaped p = true ∧ SeqAt.shaped (.list ps) = true then some (ps.any fun z => PyData.eqv z p) else none
        | some p, some (.tuple ps) => if SeqAt.shaped p = true ∧ SeqAt.shaped (.tuple ps) = true then some (ps.any fun z => PyData.eqv z p) else none
        | _, _ => none)
    | none => none)
/-- .. in a tuple -/
def rInTp (K : PySem.W.Frag) : R2 := fun x y H Q => ∃ d ds, Dp K H x d ∧ Dp K H y (.tuple ds) ∧ SeqAt.shaped d = true ∧ SeqAt.shaped (.tuple ds) = true ∧ Q (.bl (ds.any fun z => PyData.eqv z d)) H
def rNotInTp (K : PySem.W.Frag) : R2 := fun x y H Q => ∃ d ds, Dp K H x d ∧ Dp K H y (.tuple ds) ∧ SeqAt.shaped d = true ∧ SeqAt.shaped (.tuple ds) = true ∧ Q (.bl (!ds.any fun z => PyData.eqv z d)) H
theorem op_inTp {X : Cx} (hu : X.A.units + 65 < cLine) : OpR X (compareOp .In) (rInTp X.K) := by
  intro pins s σ H x y v u Q I rx ry h
  obtain ⟨d, ds, hd, he, sd, se, q⟩ := h
  obtain ⟨as, r1⟩ := Dp.reads I d x v hd rx
  obtain ⟨bs, r2⟩ := Dp.reads I (.tuple ds) y u he ry
  exact SeqAt.in_tuple_reads r2 r1 (SeqAt.canLay_of_shaped se) (SeqAt.canLay_of_shaped sd) (room_in_shaped sd hu) ⟨.bl _, H, I, rfl, q⟩
theorem op_notInTp {X : Cx} (hu : X.A.units + 65 < cLine) : OpR X (compareOp .NotIn) (rNotInTp X.K) := by
  intro pins s σ H x y v u Q I rx ry h
  obtain ⟨d, ds, hd, he, sd, se, q⟩ := h
  obtain ⟨as, r1⟩ := Dp.reads I d x v hd rx
  obtain ⟨bs, r2⟩ := Dp.reads I (.tuple ds) y u he ry
  exact SeqAt.notIn_tuple_reads r2 r1 (SeqAt.canLay_of_shaped se) (SeqAt.canLay_of_shaped sd) (room_in_shaped sd hu) ⟨.bl _, H, I, rfl, q⟩
theorem itemsS_is {ρ : List Addr} {h : PH} {H : Hp} (x : At K ρ h H) {d : D} {v : V} {ds : List D} (e : itemsS h d = some ds) (r : RD K ρ H h.cs.length d v) :
    ∃ a xs, v = .ref a ∧ (SqL K H a xs ∨ SqT K H a xs) ∧ IsL K ρ H ds xs ∧ mrL ds ≤ h.cs.length := by
  cases d with
  | tup es =>
    have e' : some es = some ds := e
    cases e'
    obtain ⟨a, xs, h1, h2, h3⟩ := r.1.tup
    exact ⟨a, xs, h1, .inr h2, h3, r.2⟩
  | frl es =>
    obtain ⟨a, xs, h1, h2, h3, h4⟩ := itemsL_is (d := .frl es) x e r
    exact ⟨a, xs, h1, .inl h2, h3, h4⟩
  | ref n =>
    obtain ⟨a, xs, h1, h2, h3, h4⟩ := itemsL_is (d := .ref n) x e r
    exact ⟨a, xs, h1, .inl h2, h3, h4⟩
  | _ => cases e
theorem inB_is {ρ : List Addr} {h : PH} {H : Hp} (at_ : At K ρ h H) {a b : D} {x y : V} {c : Bool} (e : inB a b h = some c) (rx : RD K ρ H h.cs.length a x) (ry : RD K ρ H h.cs.length b y) :
    (∃ i j, x = .str i ∧ y = .str j ∧ c = !(Builtin.Str.occurrences j i 0 j.length 1).isEmpty) ∨ (∃ p xs, y = .ref p ∧ (SqL K H p xs ∨ SqT K H p xs) ∧ flatV x = true ∧ xs.all flatV = true ∧ c = inV x xs) ∨
      (∃ d ds, Dp K H x d ∧ Dp K H y (.list ds) ∧ SeqAt.shaped d = true ∧ SeqAt.shaped (.list ds) = true ∧ c = ds.any fun z => PyData.eqv z d) ∨ ∃ d ds, Dp K H x d ∧ Dp K H y (.tuple ds) ∧ SeqAt.shaped d = true ∧ SeqAt.shaped (.tuple ds) = true ∧ c = ds.any fun z => PyData.eqv z d := by
  unfold inB at e
  split at e
  · rename_i j
    cases a with
    | str i =>
      cases e
      exact .inl ⟨i, j, rx.1.str, ry.1.str, rfl⟩
    | _ => cases e
  · split at e
    · rename_i ds q
      split at e
      · rename_i f
        cases e
        obtain ⟨p, xs, rfl, s, i, _⟩ := itemsS_is at_ q ry
        exact .inr (.inl ⟨p, xs, rfl, s, flat_is f.1 rx.1, flat_isL f.2 i, (inV_is f.1 rx.1 f.2 i).symm⟩)
      · split at e
        · rename_i p ps q1 q2
          split at e
          · rename_i f
            cases e
            exact .inr (.inr (.inl ⟨p, ps, toPy_is at_ q1 rx.1, toPy_is at_ q2 ry.1, f.1, f.2, rfl⟩))
          · cases e
        · rename_i p ps q1 q2
          split at e
          · rename_i f
            cases e
            exact .inr (.inr (.inr ⟨p, ps, toPy_is at_ q1 rx.1, toPy_is at_ q2 ry.1, f.1, f.2, rfl⟩))
          · cases e
        · cases e
    · cases e
def inDc (a b : D) (h : PH) : Option Bool := match b with
  | .ref n => (match keyT a with
   | some k => (match nLook h n k with
    | some r => some r.isSome
    | none => none)
   | none => (match h.cs[n]? with
    | some (.dict kvs) => (match keyD a with
      | some k => some (dGetL kvs k).isSome
      | none => none)
    | _ => none))
  | _ => none
def inF : D → D → PH → Res D := fun a b h => match inB a b h with
  | some c => .ok (.bl c) h
  | none => (match inDc a b h with
    | some c => .ok (.bl c) h
    | none => .stuck)
def notInF : D → D → PH → Res D := fun a b h => match inB a b h with
  | some c => .ok (.bl (!c)) h
  | none => (match inDc a b h with
    | some c => .ok (.bl (!c)) h
    | none => .stuck)
def rInDct (K : KX) (neg : Bool) : R2 := fun x y H Q => ∃ a o, y = .ref a ∧ (DGet H a x o ∨ ∃ b k xs, x = .ref b ∧ DNat K.pw.1 K.pw.2 K.K H a xs ∧ KeyIs K.K H k (.ref b) ∧ k.depth ≤ 8 ∧ o = atN xs k) ∧ Q (.bl (if neg then !o.isSome else o.isSome)) H
theorem op_inDct {X : Cx} {hx : Option (Nat × Addr)} (hu : X.A.units + 9 < cLine) : OpR X (compareOp .In) (rInDct ⟨X.K, hx, (X.prog, X.w)⟩ false) := by
  intro pins s σ H x y v u Q I rx ry h
  obtain ⟨a, o, rfl, g, q⟩ := h
  obtain rfl : u = Value.ref a := ry
  rcases g with g | ⟨b, k, xs, rfl, dn, hk, h8, rfl⟩
  · exact d_in (by omega) I g rx fun s3 I3 => ⟨.bl o.isSome, H, I3, rfl, q⟩
  · obtain rfl : v = Value.ref b := rx
    exact n_in hu I dn hk h8 fun s3 I3 => ⟨.bl (atN xs k).isSome, H, I3, rfl, q⟩
theorem op_notInDct {X : Cx} {hx : Option (Nat × Addr)} (hu : X.A.units + 9 < cLine) : OpR X (compareOp .NotIn) (rInDct ⟨X.K, hx, (X.prog, X.w)⟩ true) := by
  intro pins s σ H x y v u Q I rx ry h
  obtain ⟨a, o, rfl, g, q⟩ := h
  obtain rfl : u = Value.ref a := ry
  rcases g with g | ⟨b, k, xs, rfl, dn, hk, h8, rfl⟩
  · exact d_notIn (by omega) I g rx fun s3 I3 => ⟨.bl (!o.isSome), H, I3, rfl, q⟩
  · obtain rfl : v = Value.ref b := rx
    exact n_notIn hu I dn hk h8 fun s3 I3 => ⟨.bl (!(atN xs k).isSome), H, I3, rfl, q⟩
theorem inDc_is {ρ : List Addr} {h : PH} {H : Hp} (at_ : At K ρ h H) {d e : D} {x y : V} {c : Bool} (q : inDc d e h = some c) (rx : RD K ρ H h.cs.length d x) (ry : RD K ρ H h.cs.length e y) : ∃ a o, y = .ref a ∧ (DGet H a x o ∨ ∃ b k xs, x = .ref b ∧ DNat K.pw.1 K.pw.2 K.K H a xs ∧ KeyIs K.K H k (.ref b) ∧ k.depth ≤ 8 ∧ o = atN xs k) ∧ c = o.isSome := by
  unfold inDc at q
  split at q
  · split at q
    · rename_i k hk
      split at q
      · rename_i r e
        cases q
        obtain ⟨a, b, xs, rfl, rfl, dn, k1, k2, k3, _⟩ := nLook_is at_ hk e ry.1 rx.1
        exact ⟨a, atN xs k, rfl, .inr ⟨b, k, xs, rfl, dn, k1, k2, rfl⟩, k3⟩
      · cases q
    split at q
    · rename_i kvs q2
      split at q
      · rename_i k q3
        cases q
        obtain ⟨a, xs, rfl, _, h1, h2, h3⟩ := at_.dct q2 ry.1
        obtain ⟨n1, n2⟩ := dGetL_is (k := k) h2
        refine ⟨a, valV xs k, rfl, .inl (by rw [keyD_is q3 rx.1]; exact DGet.k h1), ?_⟩
        cases e : dGetL kvs k with
        | none => rw [n2 e]; rfl
        | some d' => obtain ⟨v, e1, _⟩ := n1 d' e; rw [e1]; rfl
      · cases q
    · cases q
  · cases q
theorem o_in : Op2 K W inF (fun x y H Q => (fun x y H Q => ∃ i j, x = .str i ∧ y = .str j ∧ Q (.bl (!(Builtin.Str.occurrences j i 0 j.length 1).isEmpty)) H) x y H Q ∨ rIn K false x y H Q ∨ rInD K x y H Q ∨ rInDct K false x y H Q ∨ rInTp K x y H Q) := by
  intro σ ρ h H d e x y Q at_ rx ry p
  unfold inF at p
  split at p
  · rename_i c q
    have fin := p ρ _ H at_.refl is_bl
    rcases inB_is at_ q rx ry with ⟨i, j, h1, h2, h3⟩ | ⟨a, xs, h1, h2, h3, h4, h5⟩ | ⟨d, ds, h1, h2, h3, h4, h5⟩ | ⟨d, ds, h1, h2, h3, h4, h5⟩
    · subst h3; exact .inl ⟨i, j, h1, h2, fin⟩
    · subst h5; exact .inr (.inl ⟨a, xs, h1, h2, h3, h4, fin⟩)
    · subst h5; exact .inr (.inr (.inl ⟨d, ds, h1, h2, h3, h4, fin⟩))
    · subst h5; exact .inr (.inr (.inr (.inr ⟨d, ds, h1, h2, h3, h4, fin⟩)))
  · split at p
    · rename_i c q
      obtain ⟨a, o, h1, h2, rfl⟩ := inDc_is at_ q rx ry
      exact .inr (.inr (.inr (.inl ⟨a, o, h1, h2, p ρ _ H at_.refl is_bl⟩)))
    · exact p.elim
theorem o_notIn : Op2 K W notInF (fun x y H Q => (fun x y H Q => ∃ i j, x = .str i ∧ y = .str j ∧ Q (.bl (!(!(Builtin.Str.occurrences j i 0 j.length 1).isEmpty))) H) x y H Q ∨ rIn K true x y H Q ∨ rNotInD K x y H Q ∨ rInDct K true x y H Q ∨ rNotInTp K x y H Q) := by
  intro σ ρ h H d e x y Q at_ rx ry p
  unfold notInF at p
  split at p
  · rename_i c q
    have fin := p ρ _ H at_.refl is_bl
    rcases inB_is at_ q rx ry with ⟨i, j, h1, h2, h3⟩ | ⟨a, xs, h1, h2, h3, h4, h5⟩ | ⟨d, ds, h1, h2, h3, h4, h5⟩ | ⟨d, ds, h1, h2, h3, h4, h5⟩
    · subst h3; exact .inl ⟨i, j, h1, h2, fin⟩
    · subst h5; exact .inr (.inl ⟨a, xs, h1, h2, h3, h4, fin⟩)
    · subst h5; exact .inr (.inr (.inl ⟨d, ds, h1, h2, h3, h4, fin⟩))
    · subst h5; exact .inr (.inr (.inr (.inr ⟨d, ds, h1, h2, h3, h4, fin⟩)))
  · split at p
    · rename_i c q
      obtain ⟨a, o, h1, h2, rfl⟩ := inDc_is at_ q rx ry
      exact .inr (.inr (.inr (.inl ⟨a, o, h1, h2, p ρ _ H at_.refl is_bl⟩)))
    · exact p.elim

/-! ### subscripts, slices -/
def ixB (a i : D) (h : PH) : Option D := match i with
  | .int k => (match a with
    | .str x => if x.length ≤ 16777216 then (match atI x.cps.toList k with
      | some c => some (.str ⟨#[c]⟩)
      | none => none) else none
    | a => (match itemsS h a with
      | some ds => atI ds k
      | none => none))
  | _ => none
def ixD (a i : D) (h : PH) : Option D := match a with
  | .ref n => (match keyT i with
   | some k => (match nLook h n k with
    | some r => r
    | none => none)
   | none => (match h.cs[n]? with
    | some (.dict kvs) => (match keyD i with
      | some k => dGetL kvs k
      | none => none)
    | _ => none))
  | _ => none
def ixF : D → D → PH → Res D := fun a i h => match ixB a i h with
  | some d => .ok d h
  | none => (match ixD a i h with
    | some d => .ok d h
    | none => .stuck)
theorem IsL.atI {ρ : List Addr} {H : Hp} {ds : List D} {xs : List V} {k : Int} {d : D} (h : IsL K ρ H ds xs) (e : atI ds k = some d) : ∃ v, L2.atI xs k = some v ∧ Is K ρ H d v ∧ d.mr ≤ mrL ds := by
  unfold L2.atI at e ⊢
  rw [h.length]
  cases q : ixN ds.length k with
  | none => rw [q] at e; cases e
  | some j =>
    rw [q] at e
    have e' : ds[j]? = some d := e
    obtain ⟨v, e1, e2⟩ := h.get e'
    exact ⟨v, e1, e2, mrL_get e'⟩
theorem o_ix : Op2 K W ixF (fun x y H Q => rIx K x y H Q ∨ (fun x y H Q => rIxDct x y H Q ∨ rIxN K x y H Q) x y H Q) := by
  intro σ ρ h H d e x y Q at_ rx ry p
  unfold ixF at p
  split at p
  · rename_i r q
    unfold ixB at q
    split at q
    · rename_i k
      split at q
      · rename_i z
        split at q
        · rename_i hz
          split at q
          · rename_i c q2
            cases q
            exact .inl (.inr (.inr ⟨z, k, c, rx.1.str, ry.1.int, by rw [sizeLine_eq]; exact hz, q2, p ρ _ H at_.refl is_str⟩))
          · cases q
        · cases q
      · split at q
        · rename_i ds q2
          obtain ⟨a, xs, rfl, s, i, l⟩ := itemsS_is at_ q2 rx
          obtain ⟨v, e1, e2, e3⟩ := i.atI q
          have fin := p ρ v H at_.refl ⟨e2, Nat.le_trans e3 l⟩
          rcases s with s | s
          · exact .inl (.inl ⟨a, xs, k, v, rfl, ry.1.int, s, e1, fin⟩)
          · exact .inl (.inr (.inl ⟨a, xs, k, v, rfl, ry.1.int, s, e1, fin⟩))
        · cases q
    · cases q
  · split at p
    · rename_i r q
      unfold ixD at q
      split at q
      · rename_i n
        split at q
        · rename_i k hk
          split at q
          · rename_i r e
            subst q
            obtain ⟨a, b, xs, rfl, rfl, dn, k1, k2, _, k4⟩ := nLook_is at_ hk e rx.1 ry.1
            obtain ⟨v, e1, e2⟩ := k4 _ rfl
            exact .inr (.inr ⟨a, b, k, xs, v, rfl, rfl, dn, k1, k2, e1, p ρ v H at_.refl e2⟩)
          · cases q
        split at q
        · rename_i kvs q2
          split at q
          · rename_i k q3
            obtain ⟨a, xs, rfl, _, h1, h2, h3⟩ := at_.dct q2 rx.1
            obtain ⟨v, e1, e2, e3⟩ := (dGetL_is (k := k) h2).1 _ q
            refine .inr <| .inl ⟨a, v, rfl, ?_, p ρ v H at_.refl ⟨e2, Nat.le_trans e3 h3⟩⟩
            rw [keyD_is q3 ry.1, ← e1]
            exact DGet.k h1
          · cases q
        · cases q
      · cases q
    · exact p.elim
def cutD (ds : List D) (lo hi : Option Int) : List D := (ds.drop (HT.sIx ds.length 0 lo)).take (HT.sIx ds.length ds.length hi - HT.sIx ds.length 0 lo)
def slF (a : D) (lo hi : Option Int) (h : PH) : Res D := match a with
  | .tup ds => .ok (.tup (cutD ds lo hi)) h
  | .str x => if x.length ≤ 16777216 then .ok (.str (cutS x lo hi)) h else .stuck
  | a => (match itemsL h a with
    | some ds => newL (cutD ds lo hi) h
    | none => .stuck)
theorem IsL.cut {ρ : List Addr} {H : Hp} {ds : List D} {xs : List V} (h : IsL K ρ H ds xs) (lo hi : Option Int) : IsL K ρ H (cutD ds lo hi) (cutV xs lo hi) := by
  unfold cutD cutV
  rw [h.length]
  exact (h.drop _).take _
theorem mrL_cut {ds : List D} {lo hi : Option Int} : mrL (cutD ds lo hi) ≤ mrL ds := Nat.le_trans mrL_take mrL_drop
def rSlAll (K : KX) : V → Option Int → Option Int → Hp → VK → Prop := fun x lo hi H Q => rSlA K x lo hi H Q ∨ rSlS x lo hi H Q ∨ rSlL K x lo hi H Q
theorem o_sl {σ : L2.St} {ρ : List Addr} {h : PH} {H : Hp} {d : D} {x : V} {lo hi : Option Int} {Q : VK} (at_ : At K ρ h H) (rx : RD K ρ H h.cs.length d x) (p : PostG K W (RD K) σ Q ρ H (slF d lo hi h)) : rSlAll K x lo hi H Q := by
  unfold slF at p
  split at p
  · rename_i ds
    obtain ⟨a, xs, rfl, s, i⟩ := rx.1.tup
    have l : mrL ds ≤ h.cs.length := rx.2
    refine .inl ⟨a, xs, rfl, s, fun ⟨w1, w2⟩ => ?_, fun _ q hq => ?_⟩
    · have e : cutD ds lo hi = ds := by
        unfold cutD
        rw [i.length] at w1 w2
        rw [w1, w2, List.drop_zero, Nat.sub_zero, List.take_length]
      rw [e] at p
      exact p ρ _ H at_.refl rx
    · obtain ⟨e1, e2⟩ := push_tup at_ (i.cut lo hi) (Nat.le_trans mrL_cut l) hq
      exact p ρ _ _ e1 e2
  · split at p
    · rename_i z hz
      exact .inr (.inl ⟨z, rx.1.str, by rw [sizeLine_eq]; exact hz, p ρ _ H at_.refl is_str⟩)
    · exact p.elim
  · split at p
    · rename_i ds q2
      obtain ⟨a, xs, rfl, s, i, l⟩ := itemsL_is at_ q2 rx
      refine .inr (.inr ⟨a, xs, rfl, s, fun q hq => ?_⟩)
      obtain ⟨ρ', e1, e2⟩ := push_lst at_ (i.cut lo hi) (Nat.le_trans mrL_cut l) hq
      exact p ρ' _ _ e1 e2
    · exact p.elim

/-! ### truth -/
def truth (d : D) (h : PH) : Option Bool := match d with
  | .non => some false
  | .bl b => some b
  | .int i => some (i != 0)
  | .str y => if y.length ≤ 16777216 then some ((y.length : Int) != 0) else none
  | .tup ds => some (!ds.isEmpty)
  | d => (match itemsL h d with
    | some ds => some (!ds.isEmpty)
    | none => none)
theorem IsL.empty {ρ : List Addr} {H : Hp} {ds : List D} {xs : List V} (h : IsL K ρ H ds xs) : ds.isEmpty = xs.isEmpty := by
  cases ds with
  | nil => rw [h.nil]; rfl
  | cons d ds => unfold IsL at h; obtain ⟨x, r, rfl, _⟩ := h; rfl
theorem truth_is {ρ : List Addr} {h : PH} {H : Hp} (at_ : At K ρ h H) {d : D} {x : V} {k : Bool} (e : truth d h = some k) (rx : RD K ρ H h.cs.length d x) : TruV K x H k := by
  unfold truth at e
  split at e
  · cases e; rw [rx.1.non]; rfl
  · cases e; rw [rx.1.bl]; rfl
  · cases e; rw [rx.1.int]; rfl
  · split at e
    · rename_i z hz
      cases e; rw [rx.1.str]; exact ⟨by rw [sizeLine_eq]; exact hz, rfl⟩
    · cases e
  · cases e
    obtain ⟨a, xs, rfl, s, i⟩ := rx.1.tup
    exact .inr (.inl ⟨xs, s, by rw [i.empty]⟩)
  · split at e
    · rename_i ds q
      cases e
      obtain ⟨a, xs, rfl, s, i, _⟩ := itemsL_is at_ q rx
      exact .inl ⟨xs, s, by rw [i.empty]⟩
    · cases e
end
end Dy

/-! Tests, subscripts, slices, the walked things, statements. -/
namespace Dy
open PySem PySem.Spec PyProof.Rows L2
section
variable {X : Cx} {W : WJ}
/-! ### tests -/
def tbT (m : EM) : TM := fun e h => (m e h).bind fun d h1 => match d with
  | .bl b => .ok b h1
  | _ => .stuck
def trT (m : EM) : TM := fun e h => (m e h).bind fun d h1 => match truth d h1 with
  | some b => .ok b h1
  | none => .stuck
def andT (t u : TM) : TM := fun e h => (t e h).bind fun b h1 => match b with
  | true => u e h1
  | false => .ok false h1
def orT (t u : TM) : TM := fun e h => (t e h).bind fun b h1 => match b with
  | true => .ok true h1
  | false => u e h1
def notT (t : TM) : TM := fun e h => (t e h).bind fun b h1 => .ok (!b) h1
theorem dt_cmp {a b : Expr} {op : CmpOp} {pos : Pos} {ma mb : EM} {f : D → D → PH → Res D} {r : R2} (ho : OpR X (compareOp op) r) (hf : Op2 (kx X W) W f r) (ha : DE X W a ma) (hb : DE X W b mb) (hm : behindInMarks op b = false) :
    DT X W (.Compare a [op] [b] pos) (tbT (b2E f ma mb)) := pt_imp (pt_cmpR ho ha hb hm) fun σ H Q ⟨ρ, env, h, rl, p⟩ => by
  have q := PostG.bind (R := RD (kx X W)) rl p
  refine t_b2 hf (tG_mono q fun b H1 ⟨ρ1, h1, d, x1, r1, p1⟩ => ?_)
  cases d with
  | bl k => exact ⟨k, r1.1.bl, p1 ρ1 k H1 x1.at.refl rfl⟩
  | _ => exact p1.elim
/-- an expression whose test is its value's truth -/
def plainTest : Expr → Bool
  | .UnaryOp .Not _ _ => false
  | .BoolOp _ _ _ => false
  | .IfExp _ _ _ _ => false
  | .Compare _ _ _ _ => false
  | _ => true
theorem plainTest_is {e : Expr} (h : plainTest e = true) (env : PySem.Env) (whole : Sem Value) : isTrue e env whole = (do let v ← whole; standAt e.pos; holding [v] (truthy v)) := by
  cases e with
  | UnaryOp op a pos => cases op <;> first | rfl | cases h
  | BoolOp _ _ _ => cases h
  | IfExp _ _ _ _ => cases h
  | Compare _ _ _ _ => cases h
  | _ => rfl
theorem dt_truth {a : Expr} {ma : EM} (ha : DE X W a ma) (hp : plainTest a = true) : DT X W a (trT ma) := pt_imp (pt_truth ha fun whole => plainTest_is hp _ whole) fun σ H Q ⟨ρ, env, h, rl, p⟩ => by
  refine tG_mono (PostG.bind (R := RD (kx X W)) rl p) fun b H1 ⟨ρ1, h1, d, x1, r1, p1⟩ => ?_
  cases e : truth d h1 with
  | none => rw [e] at p1; exact p1.elim
  | some k =>
    rw [e] at p1
    exact ⟨k, truth_is x1.at e r1, p1 ρ1 k H1 x1.at.refl rfl⟩
theorem dt_not {a : Expr} {t : TM} {pos : Pos} (ha : DT X W a t) : DT X W (.UnaryOp .Not a pos) (notT t) := pt_imp (pt_not ha) fun σ H Q ⟨ρ, env, h, rl, p⟩ => by
  refine tG_mono (PostG.bind (R := RB) rl p) fun b H1 ⟨ρ1, h1, d, x1, r1, p1⟩ => ?_
  have e : d = b := r1
  subst e
  exact p1 ρ1 _ H1 x1.at.refl rfl
/-- and, or as tests -/
abbrev DW (X : Cx) (W : WJ) (e : Expr) (m : TM) : Prop := PW X e (tT (kx X W) W m)
theorem dw_and1 {a : Expr} {t : TM} {pos : Pos} (ha : DT X W a t) : DW X W (.BoolOp .And [a] pos) t := pw_and1 ha
theorem dw_or1 {a : Expr} {t : TM} {pos : Pos} (ha : DT X W a t) : DW X W (.BoolOp .Or [a] pos) t := pw_or1 ha
theorem dw_and {a b : Expr} {rest : List Expr} {t u : TM} {pos : Pos} (ha : DT X W a t) (hb : DW X W (.BoolOp .And (b :: rest) pos) u) : DW X W (.BoolOp .And (a :: b :: rest) pos) (andT t u) := pw_imp (pw_and ha hb) fun σ H Q ⟨ρ, env, h, rl, p⟩ => by
  refine tG_mono (PostG.bind (R := RB) rl p) fun b H1 ⟨ρ1, h1, d, x1, r1, p1⟩ => ?_
  have e : d = b := r1
  subst e
  cases d with
  | true => exact ⟨ρ1, env, h1, rl.ext x1, p1⟩
  | false => exact p1 ρ1 _ H1 x1.at.refl rfl
theorem dw_or {a b : Expr} {rest : List Expr} {t u : TM} {pos : Pos} (ha : DT X W a t) (hb : DW X W (.BoolOp .Or (b :: rest) pos) u) : DW X W (.BoolOp .Or (a :: b :: rest) pos) (orT t u) := pw_imp (pw_or ha hb) fun σ H Q ⟨ρ, env, h, rl, p⟩ => by
  refine tG_mono (PostG.bind (R := RB) rl p) fun b H1 ⟨ρ1, h1, d, x1, r1, p1⟩ => ?_
  have e : d = b := r1
  subst e
  cases d with
  | true => exact p1 ρ1 _ H1 x1.at.refl rfl
  | false => exact ⟨ρ1, env, h1, rl.ext x1, p1⟩
/-! ### and, or, not, if as values -/
def andE (a b : EM) : EM := fun e h => (a e h).bind fun d h1 => match truth d h1 with
  | some true => b e h1
  | some false => .ok d h1
  | none => .stuck
def orE (a b : EM) : EM := fun e h => (a e h).bind fun d h1 => match truth d h1 with
  | some true => .ok d h1
  | some false => b e h1
  | none => .stuck
def notF (d : D) (h : PH) : Res D := match truth d h with
  | some b => .ok (.bl (!b)) h
  | none => .stuck
theorem de_one {op : BoolOp} {a : Expr} {m : EM} {pos : Pos} (ha : DE X W a m) : DE X W (.BoolOp op [a] pos) m := pe_one ha
theorem de_and {a b : Expr} {rest : List Expr} {m n : EM} {pos : Pos} (ha : DE X W a m) (hb : DE X W (.BoolOp .And (b :: rest) pos) n) : DE X W (.BoolOp .And (a :: b :: rest) pos) (andE m n) := pe_imp (pe_andT ha hb) fun σ H Q ⟨ρ, env, h, rl, p⟩ => by
  refine tG_mono (PostG.bind (R := RD (kx X W)) rl p) fun b H1 ⟨ρ1, h1, d, x1, r1, p1⟩ => ?_
  cases e : truth d h1 with
  | none => rw [e] at p1; exact p1.elim
  | some k =>
    rw [e] at p1
    refine ⟨k, truth_is x1.at e r1, ?_⟩
    cases k with
    | true => exact iteT ⟨ρ1, env, h1, rl.ext x1, p1⟩
    | false => exact iteF (p1 ρ1 _ H1 x1.at.refl r1)
theorem de_or {a b : Expr} {rest : List Expr} {m n : EM} {pos : Pos} (ha : DE X W a m) (hb : DE X W (.BoolOp .Or (b :: rest) pos) n) : DE X W (.BoolOp .Or (a :: b :: rest) pos) (orE m n) := pe_imp (pe_orT ha hb) fun σ H Q ⟨ρ, env, h, rl, p⟩ => by
  refine tG_mono (PostG.bind (R := RD (kx X W)) rl p) fun b H1 ⟨ρ1, h1, d, x1, r1, p1⟩ => ?_
  cases e : truth d h1 with
  | none => rw [e] at p1; exact p1.elim
  | some k =>
    rw [e] at p1
    refine ⟨k, truth_is x1.at e r1, ?_⟩
    cases k with
    | true => exact iteT (p1 ρ1 _ H1 x1.at.refl r1)
    | false => exact iteF ⟨ρ1, env, h1, rl.ext x1, p1⟩
theorem de_not {a : Expr} {m : EM} {pos : Pos} (ha : DE X W a m) : DE X W (.UnaryOp .Not a pos) (u1E notF m) := pe_imp (pe_notT ha) fun σ H Q ⟨ρ, env, h, rl, p⟩ => by
  refine tG_mono (PostG.bind (R := RD (kx X W)) rl p) fun b H1 ⟨ρ1, h1, d, x1, r1, p1⟩ => ?_
  have p1 : PostG (kx X W) W (RD (kx X W)) σ Q ρ1 H1 (match truth d h1 with | some b => .ok (.bl (!b)) h1 | none => .stuck) := p1
  cases e : truth d h1 with
  | none => rw [e] at p1; exact p1.elim
  | some k =>
    rw [e] at p1
    exact ⟨k, truth_is x1.at e r1, p1 ρ1 _ H1 x1.at.refl is_bl⟩
def ifE (t : TM) (a b : EM) : EM := fun e h => (t e h).bind fun c h1 => match c with
  | true => a e h1
  | false => b e h1
theorem de_if {c a b : Expr} {t : TM} {m n : EM} {pos : Pos} (hc : DT X W c t) (ha : DE X W a m) (hb : DE X W b n) : DE X W (.IfExp c a b pos) (ifE t m n) := pe_imp (pe_ifExp hc ha hb) fun σ H Q ⟨ρ, env, h, rl, p⟩ => by
  refine tG_mono (PostG.bind (R := RB) rl p) fun b H1 ⟨ρ1, h1, d, x1, r1, p1⟩ => ?_
  have e : d = b := r1
  subst e
  cases d with
  | true => exact iteT ⟨ρ1, env, h1, rl.ext x1, p1⟩
  | false => exact iteF ⟨ρ1, env, h1, rl.ext x1, p1⟩
/-- .. as a test -/
def ifT (t a b : TM) : TM := fun e h => (t e h).bind fun c h1 => match c with
  | true => a e h1
  | false => b e h1
theorem pt_ifExp {c a b : Expr} {tc ta tb : TT} {pos : Pos} (hc : PT X c tc) (ha : PT X a ta) (hb : PT X b tb) : PT X (.IfExp c a b pos) (fun σ H Q => tc σ H fun d H1 => if d = true then ta σ H1 Q else tb σ H1 Q) := by
  refine ⟨fun pins s σ H Q I h => ?_⟩
  show wpAny (model X.prog X.w) X.A (do if ← isTrue c X.env (eval c X.env) then isTrue a X.env (eval a X.env) else isTrue b X.env (eval b X.env)) _ _ _
  refine wpAny_bind (thn (hc.run pins s σ H _ I h) fun d s1 ⟨H1, I1, q1⟩ => ?_)
  cases d with
  | true => exact ha.run pins s1 σ H1 Q I1 q1
  | false => exact hb.run pins s1 σ H1 Q I1 q1
theorem dt_if {c a b : Expr} {t m n : TM} {pos : Pos} (hc : DT X W c t) (ha : DT X W a m) (hb : DT X W b n) : DT X W (.IfExp c a b pos) (ifT t m n) := pt_imp (pt_ifExp hc ha hb) fun σ H Q ⟨ρ, env, h, rl, p⟩ => by
  refine tG_mono (PostG.bind (R := RB) rl p) fun b H1 ⟨ρ1, h1, d, x1, r1, p1⟩ => ?_
  have e : d = b := r1
  subst e
  cases d with
  | true => exact ⟨ρ1, env, h1, rl.ext x1, p1⟩
  | false => exact ⟨ρ1, env, h1, rl.ext x1, p1⟩
/-! ### a < b < c -/
def chE (f g : D → D → PH → Res D) (a b c : EM) : EM := fun e h => (a e h).bind fun x h1 => (b e h1).bind fun y h2 => (f x y h2).bind fun z h3 => match z with
  | .bl true => (c e h3).bind fun w h4 => g y w h4
  | .bl false => .ok (.bl false) h3
  | _ => .stuck
/-- as Op2, the operation is a step of more -/
theorem Op2.step {K : KX} {f : D → D → PH → Res D} {r : R2} (hf : Op2 K W f r) {σ : L2.St} {ρ : List Addr} {h : PH} {H : Hp} {d e : D} {x y : V} {Q : VK} (at_ : At K ρ h H) (rx : RD K ρ H h.cs.length d x) (ry : RD K ρ H h.cs.length e y)
    {k : D → PH → Res D} (p : PostG K W (RD K) σ Q ρ H ((f d e h).bind k)) : r x y H fun z H1 => ∃ ρ1 h1 a, Ext K ρ H h1 ρ1 H1 ∧ RD K ρ1 H1 h1.cs.length a z ∧ PostG K W (RD K) σ Q ρ1 H1 (k a h1) := by
  refine hf σ ρ h H d e x y _ at_ rx ry ?_
  cases q : f d e h with
  | stuck => rw [q] at p; exact p
  | exc c h1 => rw [q] at p; exact p
  | ok a h1 =>
    rw [q] at p
    exact fun ρ' b H' x rb => ⟨ρ', h1, a, x, rb, p.shift x⟩
theorem t_ch {K : KX} {f g : D → D → PH → Res D} {r r' : R2} (hf : Op2 K W f r) (hg : Op2 K W g r') {ma mb mc : EM} {σ : L2.St} {H : Hp} {Q : VK} (t : tE K W (chE f g ma mb mc) σ H Q) :
    tE K W ma σ H fun x H1 => tE K W mb σ H1 fun y H2 => r x y H2 fun z H3 => ∃ k, z = .bl k ∧ if k = true then tE K W mc σ H3 (fun w H4 => r' y w H4 Q) else Q (.bl false) H3 := by
  obtain ⟨ρ, env, h, rl, p⟩ := t
  refine tG_mono (PostG.bind (R := RD K) rl p) fun b H1 ⟨ρ1, h1, a1, x1, ra1, p1⟩ => ?_
  have rl1 := rl.ext x1
  refine tG_mono (PostG.bind (R := RD K) rl1 p1) fun b2 H2 ⟨ρ2, h2, a2, x2, ra2, p2⟩ => ?_
  have rl2 := rl1.ext x2
  have q := hf.step x2.at (ra1.ext x2 rl1.len) ra2 p2
  refine hf σ ρ2 h2 H2 a1 a2 b b2 _ x2.at (ra1.ext x2 rl1.len) ra2 ?_
  cases q3 : f a1 a2 h2 with
  | stuck => rw [q3] at p2; exact p2
  | exc c h4 => rw [q3] at p2; exact p2
  | ok a3 h3 =>
    rw [q3] at p2
    intro ρ3 z H3 x3 rz
    have p3 := p2.shift x3
    have rl3 := rl2.ext x3
    dsimp only [Res.bind] at p3
    split at p3
    · refine ⟨true, rz.1.bl, iteT ?_⟩
      refine tG_mono (PostG.bind (R := RD K) rl3 p3) fun b4 H4 ⟨ρ4, h4, a4, x4, ra4, p4⟩ => ?_
      exact hg σ ρ4 h4 H4 a2 a4 b2 b4 Q x4.at ((ra2.ext x3 rl2.len).ext x4 rl3.len) ra4 p4
    · exact ⟨false, rz.1.bl, iteF (p3 ρ3 _ H3 x3.at.refl is_bl)⟩
    · exact p3.elim
theorem de_ch {a b c : Expr} {op op' : CmpOp} {pos : Pos} {ma mb mc : EM} {f g : D → D → PH → Res D} {r r' : R2} (ho : OpR X (compareOp op) r) (ho' : OpR X (compareOp op') r') (hf : Op2 (kx X W) W f r) (hg : Op2 (kx X W) W g r')
    (ha : DE X W a ma) (hb : DE X W b mb) (hc : DE X W c mc) (h1 : behindInMarks op' c = false) : DE X W (.Compare a [op, op'] [b, c] pos) (chE f g ma mb mc) :=
  pe_imp (pe_chain ho ho' ha hb hc h1) fun σ H Q t => t_ch hf hg t
theorem dt_ch {a b c : Expr} {op op' : CmpOp} {pos : Pos} {ma mb mc : EM} {f g : D → D → PH → Res D} {r r' : R2} (ho : OpR X (compareOp op) r) (ho' : OpR X (compareOp op') r') (hf : Op2 (kx X W) W f r) (hg : Op2 (kx X W) W g r')
    (ha : DE X W a ma) (hb : DE X W b mb) (hc : DE X W c mc) (h1 : behindInMarks op' c = false) : DT X W (.Compare a [op, op'] [b, c] pos) (tbT (chE f g ma mb mc)) :=
  pt_imp (pt_chain ho ho' ha hb hc h1) fun σ H Q ⟨ρ, env, h, rl, p⟩ => by
    have q := PostG.bind (R := RD (kx X W)) rl p
    refine t_ch hf hg (tG_mono q fun b H1 ⟨ρ1, h1, d, x1, r1, p1⟩ => ?_)
    cases d with
    | bl k => exact ⟨k, r1.1.bl, p1 ρ1 k H1 x1.at.refl rfl⟩
    | _ => exact p1.elim
/-! ### a < b < c < d -/
def tChain3 (r r' r2 : R2) (ta tb tc td : TE) : TE := fun σ H Q => ta σ H fun x H1 => tb σ H1 fun y H2 => r x y H2 fun z H3 => ∃ k, z = .bl k ∧
  (if k = true then tc σ H3 (fun w H4 => r' y w H4 fun z2 H5 => ∃ k2, z2 = .bl k2 ∧ (if k2 = true then td σ H5 (fun u H6 => r2 w u H6 Q) else Q (.bl false) H5)) else Q (.bl false) H3)
theorem pe_chain3 {a b c d : Expr} {ta tb tc td : TE} {pos : Pos} {op op' op2 : CmpOp} {r r' r2 : R2} (ho : OpR X (compareOp op) r) (ho' : OpR X (compareOp op') r') (ho2 : OpR X (compareOp op2) r2) (ha : PE X a ta) (hb : PE X b tb) (hc : PE X c tc) (hd : PE X d td)
    (hm : lastMarks [op, op', op2] [b, c, d] = false := by with_unfolding_all rfl) : PE X (.Compare a [op, op', op2] [b, c, d] pos) (tChain3 r r' r2 ta tb tc td) := by
  refine ⟨fun pins s σ H Q I h => ?_⟩
  refine Compare_chain (thn (ha.run pins s σ H _ I h) fun v s1 ⟨x, H1, I1, r1, q1⟩ => chain_link (thn (hb.run pins s1 σ H1 _ I1 q1) fun u s2 ⟨y, H2, I2, rr2, q2⟩ =>
    thn (ho pins s2 σ H2 x y v u _ I2 r1 rr2 q2) fun d s3 ⟨z, H3, I3, r3, k, e, q3⟩ => ?_)) hm
  subst e
  cases r3
  refine wpAny_truthy_bool ?_
  cases k with
  | false => exact ite_ff ⟨.bl false, H3, I3, rfl, q3⟩
  | true =>
    refine ite_tt (chain_link (thn (hc.run pins s3 σ H3 _ I3 q3) fun w' s4 ⟨z', H4, I4, r4, q4⟩ => thn (ho' pins s4 σ H4 y z' u w' _ I4 rr2 r4 q4) fun d' s5 ⟨z2, H5, I5, r5, k2, e2, q5⟩ => ?_))
    subst e2
    cases r5
    refine wpAny_truthy_bool ?_
    cases k2 with
    | false => exact ite_ff ⟨.bl false, H5, I5, rfl, q5⟩
    | true => exact ite_tt (chain_last (thn (hd.run pins s5 σ H5 _ I5 q5) fun w2 s6 ⟨z6, H6, I6, r6, q6⟩ => ho2 pins s6 σ H6 z' z6 w' w2 Q I6 r4 r6 q6))
theorem pt_chain3 {a b c d : Expr} {ta tb tc td : TE} {pos : Pos} {op op' op2 : CmpOp} {r r' r2 : R2} (ho : OpR X (compareOp op) r) (ho' : OpR X (compareOp op') r') (ho2 : OpR X (compareOp op2) r2) (ha : PE X a ta) (hb : PE X b tb) (hc : PE X c tc) (hd : PE X d td)
    (hm : lastMarks [op, op', op2] [b, c, d] = false := by with_unfolding_all rfl) : PT X (.Compare a [op, op', op2] [b, c, d] pos) (tTest (tChain3 r r' r2 ta tb tc td)) := by
  refine ⟨fun pins s σ H Q I h => ?_⟩
  refine isTrue_chain (thn (ha.run pins s σ H _ I h) fun v s1 ⟨x, H1, I1, r1, q1⟩ => test_link (thn (hb.run pins s1 σ H1 _ I1 q1) fun u s2 ⟨y, H2, I2, rr2, q2⟩ =>
    thn (ho pins s2 σ H2 x y v u _ I2 r1 rr2 q2) fun d s3 ⟨z, H3, I3, r3, k, e, q3⟩ => ?_)) hm
  subst e
  cases r3
  refine wpAny_truthy_bool ?_
  cases k with
  | false =>
    obtain ⟨k', e', q'⟩ := q3
    cases e'
    exact ite_ff ⟨H3, I3, q'⟩
  | true =>
    refine ite_tt (test_link (thn (hc.run pins s3 σ H3 _ I3 q3) fun w' s4 ⟨z', H4, I4, r4, q4⟩ => thn (ho' pins s4 σ H4 y z' u w' _ I4 rr2 r4 q4) fun d' s5 ⟨z2, H5, I5, r5, k2, e2, q5⟩ => ?_))
    subst e2
    cases r5
    refine wpAny_truthy_bool ?_
    cases k2 with
    | false =>
      obtain ⟨k', e', q'⟩ := q5
      cases e'
      exact ite_ff ⟨H5, I5, q'⟩
    | true =>
      refine ite_tt (test_last (thn (hd.run pins s5 σ H5 _ I5 q5) fun w2 s6 ⟨z6, H6, I6, r6, q6⟩ => thn (ho2 pins s6 σ H6 z' z6 w' w2 _ I6 r4 r6 q6) fun d7 s7 ⟨z7, H7, I7, r7, k7, e7, q7⟩ => ?_))
      subst e7
      cases r7
      exact wpAny_truthy_bool ⟨H7, I7, q7⟩
def ch3E (f g k : D → D → PH → Res D) (a b c d : EM) : EM := fun e h => (a e h).bind fun x h1 => (b e h1).bind fun y h2 => (f x y h2).bind fun z h3 => match z with
  | .bl true => (c e h3).bind fun w h4 => (g y w h4).bind fun z2 h5 => (match z2 with
    | .bl true => (d e h5).bind fun u h6 => k w u h6
    | .bl false => .ok (.bl false) h5
    | _ => .stuck)
  | .bl false => .ok (.bl false) h3
  | _ => .stuck
theorem t_ch3 {K : KX} {f g k2 : D → D → PH → Res D} {r r' r2 : R2} (hf : Op2 K W f r) (hg : Op2 K W g r') (hk : Op2 K W k2 r2) {ma mb mc md : EM} {σ : L2.St} {H : Hp} {Q : VK} (t : tE K W (ch3E f g k2 ma mb mc md) σ H Q) :
    tChain3 r r' r2 (tE K W ma) (tE K W mb) (tE K W mc) (tE K W md) σ H Q := by
  obtain ⟨ρ, env, h, rl, p⟩ := t
  refine tG_mono (PostG.bind (R := RD K) rl p) fun b H1 ⟨ρ1, h1, a1, x1, ra1, p1⟩ => ?_
  have rl1 := rl.ext x1
  refine tG_mono (PostG.bind (R := RD K) rl1 p1) fun b2 H2 ⟨ρ2, h2, a2, x2, ra2, p2⟩ => ?_
  have rl2 := rl1.ext x2
  have q := hf.step x2.at (ra1.ext x2 rl1.len) ra2 p2
  refine hf σ ρ2 h2 H2 a1 a2 b b2 _ x2.at (ra1.ext x2 rl1.len) ra2 ?_
  cases q3 : f a1 a2 h2 with
  | stuck => rw [q3] at p2; exact p2
  | exc c h4 => rw [q3] at p2; exact p2
  | ok a3 h3 =>
    rw [q3] at p2
    intro ρ3 z H3 x3 rz
    have p3 := p2.shift x3
    have rl3 := rl2.ext x3
    dsimp only [Res.bind] at p3
    split at p3
    · refine ⟨true, rz.1.bl, iteT ?_⟩
      refine tG_mono (PostG.bind (R := RD K) rl3 p3) fun b4 H4 ⟨ρ4, h4, a4, x4, ra4, p4⟩ => ?_
      have rl4 := rl3.ext x4
      have ra2' := (ra2.ext x3 rl2.len).ext x4 rl3.len
      refine hg σ ρ4 h4 H4 a2 a4 b2 b4 _ x4.at ra2' ra4 ?_
      cases q5 : g a2 a4 h4 with
      | stuck => rw [q5] at p4; exact p4
      | exc c h5 => rw [q5] at p4; exact p4
      | ok a5 h5 =>
        rw [q5] at p4
        intro ρ5 z5 H5 x5 rz5
        have p5 := p4.shift x5
        have rl5 := rl4.ext x5
        dsimp only [Res.bind] at p5
        split at p5
        · refine ⟨true, rz5.1.bl, iteT ?_⟩
          refine tG_mono (PostG.bind (R := RD K) rl5 p5) fun b6 H6 ⟨ρ6, h6, a6, x6, ra6, p6⟩ => ?_
          exact hk σ ρ6 h6 H6 a4 a6 b4 b6 Q x6.at ((ra4.ext x5 rl4.len).ext x6 rl5.len) ra6 p6
        · exact ⟨false, rz5.1.bl, iteF (p5 ρ5 _ H5 x5.at.refl is_bl)⟩
        · exact p5.elim
    · exact ⟨false, rz.1.bl, iteF (p3 ρ3 _ H3 x3.at.refl is_bl)⟩
    · exact p3.elim
theorem de_ch3 {a b c d : Expr} {op op' op2 : CmpOp} {pos : Pos} {ma mb mc md : EM} {f g k : D → D → PH → Res D} {r r' r2 : R2} (ho : OpR X (compareOp op) r) (ho' : OpR X (compareOp op') r') (ho2 : OpR X (compareOp op2) r2) (hf : Op2 (kx X W) W f r) (hg : Op2 (kx X W) W g r') (hk : Op2 (kx X W) W k r2)
    (ha : DE X W a ma) (hb : DE X W b mb) (hc : DE X W c mc) (hd : DE X W d md) (h1 : behindInMarks op2 d = false) : DE X W (.Compare a [op, op', op2] [b, c, d] pos) (ch3E f g k ma mb mc md) :=
  pe_imp (pe_chain3 ho ho' ho2 ha hb hc hd h1) fun σ H Q t => t_ch3 hf hg hk t
theorem dt_ch3 {a b c d : Expr} {op op' op2 : CmpOp} {pos : Pos} {ma mb mc md : EM} {f g k : D → D → PH → Res D} {r r' r2 : R2} (ho : OpR X (compareOp op) r) (ho' : OpR X (compareOp op') r') (ho2 : OpR X (compareOp op2) r2) (hf : Op2 (kx X W) W f r) (hg : Op2 (kx X W) W g r') (hk : Op2 (kx X W) W k r2)
    (ha : DE X W a ma) (hb : DE X W b mb) (hc : DE X W c mc) (hd : DE X W d md) (h1 : behindInMarks op2 d = false) : DT X W (.Compare a [op, op', op2] [b, c, d] pos) (tbT (ch3E f g k ma mb mc md)) :=
  pt_imp (pt_chain3 ho ho' ho2 ha hb hc hd h1) fun σ H Q ⟨ρ, env, h, rl, p⟩ => by
    have q := PostG.bind (R := RD (kx X W)) rl p
    refine t_ch3 hf hg hk (tG_mono q fun b H1 ⟨ρ1, h1, d, x1, r1, p1⟩ => ?_)
    cases d with
    | bl k => exact ⟨k, r1.1.bl, p1 ρ1 k H1 x1.at.refl rfl⟩
    | _ => exact p1.elim
/-! ### subscripts, slices -/
def isSlice : Expr → Bool
  | .Slice _ _ _ _ => true
  | _ => false
theorem plainIx_of {e : Expr} (h : isSlice e = false) : PlainIx e := fun o i => by
  cases e <;> first | rfl | cases h
theorem ixR_or {X : Cx} {r r' : R2} (h : IxR X r) (h' : IxR X r') : IxR X (fun x y H Q => r x y H Q ∨ r' x y H Q) := fun value slice pins s σ H x y v u Q I rx ry q hs => q.elim (fun q => h value slice pins s σ H x y v u Q I rx ry q hs) fun q => h' value slice pins s σ H x y v u Q I rx ry q hs
theorem de_ix {a i : Expr} {m n : EM} {pos : Pos} (hu : X.A.units + 9 < cLine) (hs : isSlice i = false) (ha : DE X W a m) (hi : DE X W i n) : DE X W (.Subscript a i pos) (b2E ixF m n) := pe_imp (pe_ix (ixR_or ix_seq (ixR_or (ix_dict (by omega)) (ix_n (hx := W.hx) hu))) ha hi (plainIx_of hs)) fun σ H Q t => t_b2 o_ix t
end
end Dy

/-! Slices, calls of built-ins, methods of lists and texts, calls of defs. -/
namespace Dy
open PySem PySem.Spec PyProof.Rows L2
/-! ### slices -/
abbrev OM := Env → PH → Res (Option Int)
def RO : List Addr → Hp → Nat → Option Int → Option Int → Prop := fun _ _ _ a b => a = b
abbrev DO (X : Cx) (W : WJ) (e : Option Expr) (m : OM) : Prop := PO X e (tG (kx X W) W RO m)
def noO : OM := fun _ h => .ok none h
def someO (m : EM) : OM := fun e h => (m e h).bind fun d h1 => match d with
  | .int i => .ok (some i) h1
  | _ => .stuck
section
variable {X : Cx} {W : WJ}
theorem po_imp {e : Option Expr} {t t' : TO} (h : PO X e t) (k : ∀ σ H Q, t' σ H Q → t σ H Q) : PO X e t' := ⟨fun pins s σ H Q I q => h.run pins s σ H Q I (k σ H Q q)⟩
theorem do_none : DO X W none noO := po_imp po_none fun σ H Q ⟨ρ, env, h, rl, p⟩ => p ρ none H rl.refl rfl
theorem do_some {e : Expr} {m : EM} (h : DE X W e m) : DO X W (some e) (someO m) := po_imp (po_some h) fun σ H Q ⟨ρ, env, h, rl, p⟩ => by
  refine tG_mono (PostG.bind (R := RD (kx X W)) rl p) fun b H1 ⟨ρ1, h1, d, x1, r1, p1⟩ => ?_
  cases d with
  | int i => exact ⟨i, r1.1.int, p1 ρ1 _ H1 x1.at.refl rfl⟩
  | _ => exact p1.elim
def slE (a : EM) (lo hi : OM) : EM := fun e h => (a e h).bind fun d h1 => (lo e h1).bind fun l h2 => (hi e h2).bind fun u h3 => slF d l u h3
theorem sl_all : SlR X (rSlAll (kx X W)) := sl_tupA.or (sl_str.or sl_list)
theorem de_sl {a : Expr} {lo hi : Option Expr} {m : EM} {l u : OM} {p2 pos : Pos} (ha : DE X W a m) (hl : DO X W lo l) (hu : DO X W hi u) : DE X W (.Subscript a (.Slice lo hi none p2) pos) (slE m l u) :=
  pe_imp (pe_slice sl_all ha hl hu) fun σ H Q ⟨ρ, env, h, rl, p⟩ => by
    refine tG_mono (PostG.bind (R := RD (kx X W)) rl p) fun b H1 ⟨ρ1, h1, d1, x1, r1, p1⟩ => ?_
    have rl1 := rl.ext x1
    refine tG_mono (PostG.bind (R := RO) rl1 p1) fun l' H2 ⟨ρ2, h2, d2, x2, r2, p2⟩ => ?_
    have rl2 := rl1.ext x2
    refine tG_mono (PostG.bind (R := RO) rl2 p2) fun u' H3 ⟨ρ3, h3, d3, x3, r3, p3⟩ => ?_
    have e2 : d2 = l' := r2
    have e3 : d3 = u' := r3
    subst e2; subst e3
    exact o_sl x3.at ((r1.ext x2 rl1.len).ext x3 rl2.len) p3
/-- xs[::-1] -/
def revF (d : D) (h : PH) : Res D := match itemsL h d with
  | some ds => newL ds.reverse h
  | none => .stuck
theorem IsL.rev {K : KX} {ρ : List Addr} {H : Hp} : ∀ {ds : List D} {xs : List V}, IsL K ρ H ds xs → IsL K ρ H ds.reverse xs.reverse
  | [], xs, h => by rw [h.nil]; show IsL K ρ H [] []; unfold IsL; rfl
  | d :: ds, xs, h => by
    unfold IsL at h
    obtain ⟨x, r, rfl, h1, h2⟩ := h
    rw [List.reverse_cons, List.reverse_cons]
    refine (IsL.rev h2).append ?_
    unfold IsL
    exact ⟨x, [], rfl, h1, by unfold IsL; rfl⟩
theorem mrL_rev : ∀ {ds : List D}, mrL ds.reverse = mrL ds
  | [] => rfl
  | d :: ds => by
    rw [List.reverse_cons, mrL_append, mrL_rev]
    show max (mrL ds) (max d.mr 0) = max d.mr (mrL ds)
    omega
theorem de_rev {e : Expr} {m : EM} {k : Nat} {p1 p2 p3 pos : Pos} (ha : DE X W e m) : DE X W (.Subscript e (.Slice none none (some (.UnaryOp .USub (.Constant (.int 1) k p1) p2)) p3) pos) (u1E revF m) :=
  pe_imp (pe_revL ha) fun σ H Q t => by
    refine t_u1 (r := fun x H1 Q => ∃ a xs, x = .ref a ∧ SqL (kx X W) H1 a xs ∧ ∀ p, H1 p = none → Q (.ref p) (upd H1 p (.lst xs.reverse))) ?_ t
    intro σ ρ h H d x Q at_ rx p
    unfold revF at p
    split at p
    · rename_i ds q
      obtain ⟨a, xs, rfl, s, i, l⟩ := itemsL_is at_ q rx
      refine ⟨a, xs, rfl, s, fun q hq => ?_⟩
      obtain ⟨ρ', e1, e2⟩ := push_lst at_ i.rev (by rw [mrL_rev]; exact l) hq
      exact p ρ' _ _ e1 e2
    · exact p.elim

/-! ### built-ins -/
variable {K : KX}
/-- f upon one argument, two -/
def f1 (f : D → PH → Res D) : List D → PH → Res D := fun ds h => match ds with
  | [d] => f d h
  | _ => .stuck
def f2 (f : D → D → PH → Res D) : List D → PH → Res D := fun ds h => match ds with
  | [d, e] => f d e h
  | _ => .stuck
theorem opn_1 {f : D → PH → Res D} {r : V → Hp → VK → Prop} (h : Op1 K W f r) : OpN K W (f1 f) (fun xs H Q => ∃ x, xs = [x] ∧ r x H Q) := by
  intro σ ρ h' H ds xs Q at_ rl p
  unfold f1 at p
  split at p
  · rename_i d
    have i := rl.1
    unfold IsL at i
    obtain ⟨x, r, rfl, i1, i2⟩ := i
    rw [i2.nil]
    have l : mrL [d] ≤ h'.cs.length := rl.2
    unfold mrL at l
    exact ⟨x, rfl, h σ ρ h' H d x Q at_ ⟨i1, by omega⟩ p⟩
  · exact p.elim
theorem opn_2 {f : D → D → PH → Res D} {r : R2} (h : Op2 K W f r) : OpN K W (f2 f) (fun xs H Q => ∃ x y, xs = [x, y] ∧ r x y H Q) := by
  intro σ ρ h' H ds xs Q at_ rl p
  unfold f2 at p
  split at p
  · rename_i d e
    have i := rl.1
    unfold IsL at i
    obtain ⟨x, r, rfl, i1, i2⟩ := i
    unfold IsL at i2
    obtain ⟨y, r2, rfl, i3, i4⟩ := i2
    rw [i4.nil]
    have l : mrL [d, e] ≤ h'.cs.length := rl.2
    unfold mrL at l
    unfold mrL at l
    exact ⟨x, y, rfl, h σ ρ h' H d e x y Q at_ ⟨i1, by omega⟩ ⟨i3, by omega⟩ p⟩
  · exact p.elim
/-- a call of a built-in by its name -/
theorem de_callB {x : Str} {id : String} {p pos : Pos} {e : Expr} {es : List Expr} {m : AM} {f : List D → PH → Res D} {r : List V → Hp → VK → Prop} (hc : CallR X (.builtin id) r) (hf : OpN (kx X W) W f r) (hg : Gl X x) (hm : X.mg x = none)
    (hv : bootBuiltins x = some (.builtin id)) (ha : DA X W (e :: es) m) (hn : x ≠ "__name__" := by decide) (hdb : (x == ("__debug__" : Str)) = false := by decide)
    (he : starEach (e :: es) X.env = (false, eval e X.env) :: starEach es X.env) (hpl : (backTo pos (starEach es X.env)).any (·.1) = false) : DE X W (.Call (.Name x p) (e :: es) [] pos) (nA f m) :=
  pe_imp (pe_callB hc hg hm hv ha hn hdb he hpl) fun σ H Q t => t_nA hf t
theorem de_callTy {x : Str} {T : String} {p pos : Pos} {e : Expr} {es : List Expr} {m : AM} {f : List D → PH → Res D} {r : List V → Hp → VK → Prop} (hc : CallR X (.type T) r) (hf : OpN (kx X W) W f r) (hg : Gl X x) (hm : X.mg x = none)
    (hv : bootBuiltins x = some (.type T)) (ha : DA X W (e :: es) m) (hn : x ≠ "__name__" := by decide) (hdb : (x == ("__debug__" : Str)) = false := by decide)
    (he : starEach (e :: es) X.env = (false, eval e X.env) :: starEach es X.env) (hpl : (backTo pos (starEach es X.env)).any (·.1) = false) : DE X W (.Call (.Name x p) (e :: es) [] pos) (nA f m) :=
  pe_imp (pe_callTy hc hg hm hv ha hn hdb he hpl) fun σ H Q t => t_nA hf t
/-- no argument is starred -/
def noStars : List Expr → Bool
  | [] => true
  | e :: es => !isStar e && noStars es
theorem noStars_any : ∀ {es : List Expr} (h : noStars es = true) (pos : Pos) (env : PySem.Env), (backTo pos (starEach es env)).any (·.1) = false
  | [], _, _, _ => rfl
  | e :: es, h, pos, env => by
    unfold noStars at h
    rw [Bool.and_eq_true] at h
    have h1 : isStar e = false := by have := h.1; cases q : isStar e <;> simp_all
    rw [star_no h1 es env]
    show (false || (backTo pos (starEach es env)).any (·.1)) = false
    rw [noStars_any h.2 pos env]; rfl
theorem noStars_head {e : Expr} {es : List Expr} (h : noStars (e :: es) = true) : isStar e = false ∧ noStars es = true := by
  unfold noStars at h
  rw [Bool.and_eq_true] at h
  exact ⟨by have := h.1; cases q : isStar e <;> simp_all, h.2⟩

/-! len -/
def lenF (d : D) (h : PH) : Res D := match d with
  | .str z => if z.length ≤ 16777216 then .ok (.int z.length) h else .stuck
  | d => (match itemsS h d with
    | some ds => .ok (.int ds.length) h
    | none => .stuck)
theorem o_len : Op1 K W lenF (fun x H Q => (∃ p ys, x = .ref p ∧ (SqL K H p ys ∨ SqT K H p ys) ∧ Q (.int ys.length) H) ∨ ∃ z, x = .str z ∧ z.length ≤ sizeLine ∧ Q (.int z.length) H) := by
  intro σ ρ h H d x Q at_ rx p
  unfold lenF at p
  split at p
  · split at p
    · rename_i z hz
      exact .inr ⟨z, rx.1.str, by rw [sizeLine_eq]; exact hz, p ρ _ H at_.refl is_int⟩
    · exact p.elim
  · split at p
    · rename_i ds q
      obtain ⟨a, xs, rfl, s, i, l⟩ := itemsS_is at_ q rx
      have fin := p ρ _ H at_.refl is_int
      rw [← i.length] at fin
      exact .inl ⟨a, xs, rfl, s, fin⟩
    · exact p.elim
theorem c_len : CallR X (.builtin "len") (fun xs H Q => ∃ x, xs = [x] ∧ ((∃ p ys, x = .ref p ∧ (SqL (kx X W) H p ys ∨ SqT (kx X W) H p ys) ∧ Q (.int ys.length) H) ∨ ∃ z, x = .str z ∧ z.length ≤ sizeLine ∧ Q (.int z.length) H)) := by
  intro pins s σ H xs us Q I r h
  obtain ⟨x, rfl, h⟩ := h
  rcases h with ⟨p, ys, rfl, s', q⟩ | ⟨z, rfl, hz, q⟩
  · exact call_len_seq pins s σ H _ us Q I r ⟨p, ys, rfl, s', q⟩
  · exact call_len_str pins s σ H _ us Q I r ⟨z, rfl, hz, q⟩
/-! abs, max, min of two, int, bool, str, ord -/
def absF (d : D) (h : PH) : Res D := match d with
  | .int i => .ok (.int (if i < 0 then -i else i)) h
  | _ => .stuck
theorem c_abs : CallR X (.builtin "abs") (fun xs H Q => ∃ x, xs = [x] ∧ ∃ i, x = .int i ∧ Q (.int (if i < 0 then -i else i)) H) := by
  intro pins s σ H xs us Q I r h
  obtain ⟨x, rfl, i, rfl, q⟩ := h
  exact call_abs pins s σ H _ us Q I r ⟨i, rfl, q⟩
theorem o_abs : Op1 K W absF (fun x H Q => ∃ i, x = .int i ∧ Q (.int (if i < 0 then -i else i)) H) := by
  intro σ ρ h H d x Q at_ rx p
  unfold absF at p
  split at p
  · exact ⟨_, rx.1.int, p ρ _ H at_.refl is_int⟩
  · exact p.elim
def max2F : D → D → PH → Res D := stepI fun i j => some (.int (if j > i then j else i))
def min2F : D → D → PH → Res D := stepI fun i j => some (.int (if j < i then j else i))
theorem o_max2 : Op2 K W max2F (rI0 fun i j => .int (if j > i then j else i)) := op2_int0 fun i j d q _ _ _ => by cases q; exact is_int
theorem o_min2 : Op2 K W min2F (rI0 fun i j => .int (if j < i then j else i)) := op2_int0 fun i j d q _ _ _ => by cases q; exact is_int
theorem c_max2 (hc : X.calm = true) : CallR X (.builtin "max") (fun xs H Q => ∃ x y, xs = [x, y] ∧ (rI0 fun i j => .int (if j > i then j else i)) x y H Q) := by
  intro pins s σ H xs us Q I r h
  obtain ⟨x, y, rfl, i, j, rfl, rfl, q⟩ := h
  exact call_max2 hc pins s σ H _ us Q I r ⟨i, j, rfl, q⟩
theorem c_min2 (hc : X.calm = true) : CallR X (.builtin "min") (fun xs H Q => ∃ x y, xs = [x, y] ∧ (rI0 fun i j => .int (if j < i then j else i)) x y H Q) := by
  intro pins s σ H xs us Q I r h
  obtain ⟨x, y, rfl, i, j, rfl, rfl, q⟩ := h
  exact call_min2 hc pins s σ H _ us Q I r ⟨i, j, rfl, q⟩
def intF (d : D) (h : PH) : Res D := match d with
  | .int i => .ok (.int i) h
  | .bl k => .ok (.int (if k then 1 else 0)) h
  | .str x => (match PySem.intText? x with
    | some n => if x.length ≤ 640 then .ok (.int n) h else .stuck
    | none => .stuck)
  | _ => .stuck
theorem o_int : Op1 K W intF (fun x H Q => (∃ i, x = .int i ∧ Q (.int i) H) ∨ (∃ k, x = .bl k ∧ Q (.int (if k then 1 else 0)) H) ∨ ∃ a n, x = .str a ∧ PySem.intText? a = some n ∧ a.length ≤ 640 ∧ Q (.int n) H) := by
  intro σ ρ h H d x Q at_ rx p
  unfold intF at p
  split at p
  · exact .inl ⟨_, rx.1.int, p ρ _ H at_.refl is_int⟩
  · exact .inr (.inl ⟨_, rx.1.bl, p ρ _ H at_.refl is_int⟩)
  · split at p
    · rename_i a n e
      split at p
      · rename_i c
        exact .inr (.inr ⟨_, n, rx.1.str, e, c, p ρ _ H at_.refl is_int⟩)
      · exact p.elim
    · exact p.elim
  · exact p.elim
theorem c_int : CallR X (.type "int") (fun xs H Q => ∃ x, xs = [x] ∧ ((∃ i, x = .int i ∧ Q (.int i) H) ∨ (∃ k, x = .bl k ∧ Q (.int (if k then 1 else 0)) H) ∨ ∃ a n, x = .str a ∧ PySem.intText? a = some n ∧ a.length ≤ 640 ∧ Q (.int n) H)) := by
  intro pins s σ H xs us Q I r h
  obtain ⟨x, rfl, h⟩ := h
  rcases h with ⟨i, rfl, q⟩ | ⟨i, rfl, q⟩ | ⟨a, n, rfl, h1, h2, q⟩
  · exact call_int1 pins s σ H _ us Q I r (.inl ⟨i, rfl, q⟩)
  · exact call_int1 pins s σ H _ us Q I r (.inr ⟨i, rfl, q⟩)
  · exact call_int_str pins s σ H _ us Q I r ⟨a, n, rfl, h1, h2, q⟩
def ordF (d : D) (h : PH) : Res D := match d with
  | .str x => if x.length = 1 then .ok (.int (x.cps.getD 0 0 : Nat)) h else .stuck
  | _ => .stuck
theorem o_ord : Op1 K W ordF (fun x H Q => ∃ a, x = .str a ∧ a.length = 1 ∧ Q (.int (a.cps.getD 0 0 : Nat)) H) := by
  intro σ ρ h H d x Q at_ rx p
  unfold ordF at p
  split at p
  · split at p
    · rename_i c
      exact ⟨_, rx.1.str, c, p ρ _ H at_.refl is_int⟩
    · exact p.elim
  · exact p.elim
theorem c_ord : CallR X (.builtin "ord") (fun xs H Q => ∃ x, xs = [x] ∧ ∃ a, x = .str a ∧ a.length = 1 ∧ Q (.int (a.cps.getD 0 0 : Nat)) H) := by
  intro pins s σ H xs us Q I r h
  obtain ⟨x, rfl, a, rfl, c, q⟩ := h
  exact call_ord pins s σ H _ us Q I r ⟨a, rfl, c, q⟩
/-! fields of an f-string -/
def fmtF (d : D) (h : PH) : Res D := match d with
  | .int i => if i.natAbs.log2 < 1920 then .ok (.str (toString i)) h else .stuck
  | .str y => if y.length ≤ 16777216 then .ok (.str y) h else .stuck
  | _ => .stuck
theorem o_fmt : Op1 K W fmtF (fun x H Q => (∃ y : Str, x = .str y ∧ y.length ≤ sizeLine ∧ Q (.str y) H) ∨ ∃ i : Int, x = .int i ∧ i.natAbs.log2 < 1920 ∧ Q (.str (toString i)) H) := by
  intro σ ρ h H d x Q at_ rx p
  unfold fmtF at p
  split at p
  · split at p
    · rename_i i c
      exact .inr ⟨_, rx.1.int, c, p ρ _ H at_.refl is_str⟩
    · exact p.elim
  · split at p
    · rename_i c
      exact .inl ⟨_, rx.1.str, by rw [sizeLine_eq]; exact c, p ρ _ H at_.refl is_str⟩
    · exact p.elim
  · exact p.elim
def strF (d : D) (h : PH) : Res D := match d with
  | .int i => if i.natAbs.log2 < 1920 then .ok (.str (toString i)) h else .stuck
  | .str z => .ok (.str z) h
  | _ => .stuck
theorem o_str : Op1 K W strF (fun x H Q => (∃ i, x = .int i ∧ i.natAbs.log2 < 1920 ∧ Q (.str (toString i)) H) ∨ ∃ z, x = .str z ∧ Q (.str z) H) := by
  intro σ ρ h H d x Q at_ rx p
  unfold strF at p
  split at p
  · split at p
    · rename_i i c
      exact .inl ⟨_, rx.1.int, c, p ρ _ H at_.refl is_str⟩
    · exact p.elim
  · exact .inr ⟨_, rx.1.str, p ρ _ H at_.refl is_str⟩
  · exact p.elim
theorem c_str : CallR X (.type "str") (fun xs H Q => ∃ x, xs = [x] ∧ ((∃ i, x = .int i ∧ i.natAbs.log2 < 1920 ∧ Q (.str (toString i)) H) ∨ ∃ z, x = .str z ∧ Q (.str z) H)) := by
  intro pins s σ H xs us Q I r h
  obtain ⟨x, rfl, h⟩ := h
  rcases h with ⟨i, rfl, c, q⟩ | ⟨z, rfl, q⟩
  · exact call_str_int pins s σ H _ us Q I r ⟨i, rfl, c, q⟩
  · cases r with
    | cons r1 rs =>
      cases rs
      obtain ⟨t, e⟩ := r1
      subst e
      exact PySem.P.str_of_str ⟨.str z, H, I, ⟨t, rfl⟩, q⟩
/-! list(x), tuple(x) -/
/-- a text's signs -/
def sgD (z : Str) : List D := z.cps.toList.map fun c => D.str ⟨#[c]⟩
def sgV (z : Str) : List V := z.cps.toList.map fun c => V.str ⟨#[c]⟩
theorem sg_len (z : Str) : (sgV z).length = z.length := by unfold sgV; rw [List.length_map]; rfl
theorem sg_is {ρ : List Addr} {H : Hp} (z : Str) : IsL K ρ H (sgD z) (sgV z) := by
  unfold sgD sgV
  generalize z.cps.toList = l
  induction l with
  | nil => show IsL K ρ H [] []; unfold IsL; rfl
  | cons c l ih =>
    show IsL K ρ H (D.str ⟨#[c]⟩ :: _) (V.str ⟨#[c]⟩ :: _)
    unfold IsL
    exact ⟨_, _, rfl, by unfold Is; rfl, ih⟩
theorem sg_mr (z : Str) : mrL (sgD z) = 0 := by
  unfold sgD
  generalize z.cps.toList = l
  induction l with
  | nil => rfl
  | cons c l ih => show max 0 (mrL _) = 0; rw [ih]; rfl
theorem vals_of : ∀ {xs : List V} {us : List Value}, xs.length = us.length → (∀ (j : Nat) x u, xs[j]? = some x → us[j]? = some u → RelV x u) → Vals xs us
  | [], [], _, _ => .nil
  | [], _ :: _, h, _ => by cases h
  | _ :: _, [], h, _ => by cases h
  | x :: xs, u :: us, h, k => .cons (k 0 x u rfl rfl) (vals_of (by simpa using h) fun j x' u' a b => k (j + 1) x' u' a b)
theorem cr_list_str (hc : X.calm = true) : CallR X (.type "list") (fun vs H Q => ∃ z, vs = [V.str z] ∧ z.length ≤ sizeLine ∧ ∀ l, H l = none → Q (.ref l) (upd H l (.lst (sgV z)))) := by
  intro pins s σ H vs us Q I r h
  obtain ⟨z, rfl, hz, q⟩ := h
  obtain ⟨u, rfl, ru⟩ := Vals.one r
  obtain ⟨t, rfl⟩ := (show ∃ t, u = Value.str z t from ru)
  refine call_list_str (I.ok.hd hc) z t (hn := hz) fun h' tk acc c k hS hacc => ?_
  have hn : H s.heap.objs.size = none := I.hok.fresh (Nat.le_refl _)
  have hl : (sgV z).length = acc.toList.length := by rw [sg_len]; simp [hacc.1]; rfl
  refine ⟨.ref s.heap.objs.size, upd H s.heap.objs.size (.lst (sgV z)), I.laid (t' := tk) k (Nat.le_refl _) ⟨by rw [sg_len]; exact hz, acc.toList, c, vals_of hl fun j x u a b => ?_, by simpa using hS⟩, rfl, q _ hn⟩
  obtain ⟨c', u', e1, e2⟩ := hacc.2 j u (by simpa using b)
  unfold sgV at a
  rw [List.getElem?_map, Array.getElem?_toList, e1] at a
  have a : x = V.str ⟨#[c']⟩ := by simpa using a.symm
  subst a
  subst e2
  exact ⟨_, rfl⟩
def listF (d : D) (h : PH) : Res D := match d with
  | .str z => if z.length ≤ 16777216 then newL (sgD z) h else .stuck
  | d => (match itemsS h d with
    | some ds => newL ds h
    | none => .stuck)
def rList (K : PySem.W.Frag) : V → Hp → VK → Prop := fun x H Q => (∃ z, x = .str z ∧ z.length ≤ sizeLine ∧ ∀ l, H l = none → Q (.ref l) (upd H l (.lst (sgV z)))) ∨ ∃ p ys, x = .ref p ∧ (SqL K H p ys ∨ SqT K H p ys) ∧ ∀ l, H l = none → Q (.ref l) (upd H l (.lst ys))
theorem o_list : Op1 K W listF (rList K) := by
  intro σ ρ h H d x Q at_ rx p
  unfold listF at p
  split at p
  · rename_i z
    split at p
    · rename_i hz
      refine .inl ⟨z, rx.1.str, by rw [sizeLine_eq]; exact hz, fun q hq => ?_⟩
      obtain ⟨ρ', e1, e2⟩ := push_lst at_ (sg_is z) (by rw [sg_mr]; exact Nat.zero_le _) hq
      exact p ρ' _ _ e1 e2
    · exact p.elim
  · split at p
    · rename_i ds q
      obtain ⟨a, xs, rfl, s, i, l⟩ := itemsS_is at_ q rx
      refine .inr ⟨a, xs, rfl, s, fun q hq => ?_⟩
      obtain ⟨ρ', e1, e2⟩ := push_lst at_ i l hq
      exact p ρ' _ _ e1 e2
    · exact p.elim
theorem c_list (hc : X.calm = true) : CallR X (.type "list") (fun xs H Q => ∃ x, xs = [x] ∧ rList (kx X W) x H Q) := by
  intro pins s σ H xs us Q I r h
  obtain ⟨x, rfl, h⟩ := h
  rcases h with ⟨z, rfl, hz, q⟩ | ⟨p, ys, rfl, s', q⟩
  · exact cr_list_str hc pins s σ H _ us Q I r ⟨z, rfl, hz, q⟩
  · exact call_list_of pins s σ H _ us Q I r ⟨p, ys, rfl, s', q⟩
def tupleF (d : D) (h : PH) : Res D := match itemsS h d with
  | some ds => .ok (.tup ds) h
  | none => .stuck
theorem o_tuple : Op1 K W tupleF (fun x H Q => ∃ p ys, x = .ref p ∧ ((SqL K H p ys ∧ ∀ l, H l = none → Q (.ref l) (upd H l (.tup ys))) ∨ (SqT K H p ys ∧ Q (.ref p) H))) := by
  intro σ ρ h H d x Q at_ rx p
  unfold tupleF at p
  split at p
  · rename_i ds q
    cases d with
    | tup es =>
      have e : some es = some ds := q
      cases e
      obtain ⟨a, xs, rfl, s, i⟩ := rx.1.tup
      exact ⟨a, xs, rfl, .inr ⟨s, p ρ _ H at_.refl rx⟩⟩
    | frl es =>
      obtain ⟨a, xs, rfl, s, i, l⟩ := itemsL_is (d := .frl es) at_ q rx
      refine ⟨a, xs, rfl, .inl ⟨s, fun q hq => ?_⟩⟩
      obtain ⟨e1, e2⟩ := push_tup at_ i l hq
      exact p ρ _ _ e1 e2
    | ref es =>
      obtain ⟨a, xs, rfl, s, i, l⟩ := itemsL_is (d := .ref es) at_ q rx
      refine ⟨a, xs, rfl, .inl ⟨s, fun q hq => ?_⟩⟩
      obtain ⟨e1, e2⟩ := push_tup at_ i l hq
      exact p ρ _ _ e1 e2
    | _ => cases q
  · exact p.elim
theorem c_tuple : CallR X (.type "tuple") (fun xs H Q => ∃ x, xs = [x] ∧ ∃ p ys, x = .ref p ∧ ((SqL (kx X W) H p ys ∧ ∀ l, H l = none → Q (.ref l) (upd H l (.tup ys))) ∨ (SqT (kx X W) H p ys ∧ Q (.ref p) H))) := by
  intro pins s σ H xs us Q I r h
  obtain ⟨x, rfl, p, ys, rfl, q⟩ := h
  exact call_tuple_of pins s σ H _ us Q I r ⟨p, ys, rfl, q⟩
/-! sum, max, min, all, any, sorted of a list -/
def sumF (d : D) (h : PH) : Res D := match itemsL h d with
  | some ds => (match intsOf ds with
    | some ns => .ok (.int ns.sum) h
    | none => .stuck)
  | none => .stuck
theorem o_sum : Op1 K W sumF (fun x H Q => ∃ (a : Addr) (ns : List Int), x = .ref a ∧ SqL K H a (ns.map V.int) ∧ Q (.int ns.sum) H) := by
  intro σ ρ h H d x Q at_ rx p
  unfold sumF at p
  split at p
  · rename_i ds q
    split at p
    · rename_i ns q2
      obtain ⟨a, xs, rfl, s, i, l⟩ := itemsL_is at_ q rx
      have e := intsOf_is q2 i
      subst e
      exact ⟨a, ns, rfl, s, p ρ _ H at_.refl is_int⟩
    · exact p.elim
  · exact p.elim
theorem c_sum (hc : X.calm = true) : CallR X (.builtin "sum") (fun xs H Q => ∃ x, xs = [x] ∧ ∃ (a : Addr) (ns : List Int), x = .ref a ∧ SqL (kx X W) H a (ns.map V.int) ∧ Q (.int ns.sum) H) := by
  intro pins s σ H xs us Q I r h
  obtain ⟨x, rfl, a, ns, rfl, q⟩ := h
  exact cr_sum hc pins s σ H _ us Q I r ⟨a, ns, rfl, q⟩
/-- the greatest, the least -/
def maxI : List Int → Int
  | [] => 0
  | [n] => n
  | n :: m :: r => let k := maxI (m :: r); if k > n then k else n
def minI : List Int → Int
  | [] => 0
  | [n] => n
  | n :: m :: r => let k := minI (m :: r); if k < n then k else n
theorem maxI_spec : ∀ {ns : List Int}, 0 < ns.length → maxI ns ∈ ns ∧ ∀ y ∈ ns, y ≤ maxI ns
  | [n], _ => ⟨by simp [maxI], fun y hy => by simp at hy; subst hy; exact Int.le_refl _⟩
  | n :: m :: r, _ => by
    obtain ⟨h1, h2⟩ := maxI_spec (ns := m :: r) (by simp)
    show (if maxI (m :: r) > n then maxI (m :: r) else n) ∈ n :: m :: r ∧ ∀ y ∈ n :: m :: r, y ≤ if maxI (m :: r) > n then maxI (m :: r) else n
    split
    · refine ⟨List.mem_cons_of_mem _ h1, fun y hy => ?_⟩
      rcases List.mem_cons.mp hy with e | e
      · omega
      · exact h2 y e
    · refine ⟨List.mem_cons_self, fun y hy => ?_⟩
      rcases List.mem_cons.mp hy with e | e
      · omega
      · have := h2 y e; omega
theorem minI_spec : ∀ {ns : List Int}, 0 < ns.length → minI ns ∈ ns ∧ ∀ y ∈ ns, minI ns ≤ y
  | [n], _ => ⟨by simp [minI], fun y hy => by simp at hy; subst hy; exact Int.le_refl _⟩
  | n :: m :: r, _ => by
    obtain ⟨h1, h2⟩ := minI_spec (ns := m :: r) (by simp)
    show (if minI (m :: r) < n then minI (m :: r) else n) ∈ n :: m :: r ∧ ∀ y ∈ n :: m :: r, (if minI (m :: r) < n then minI (m :: r) else n) ≤ y
    split
    · refine ⟨List.mem_cons_of_mem _ h1, fun y hy => ?_⟩
      rcases List.mem_cons.mp hy with e | e
      · omega
      · exact h2 y e
    · refine ⟨List.mem_cons_self, fun y hy => ?_⟩
      rcases List.mem_cons.mp hy with e | e
      · omega
      · have := h2 y e; omega
def itemsM (h : PH) (d : D) : Option (List D) := match d with
  | .tup ds => some ds
  | d => itemsL h d
def max1F (d : D) (h : PH) : Res D := match itemsM h d with
  | some ds => (match intsOf ds with
    | some (n :: ns) => .ok (.int (maxI (n :: ns))) h
    | _ => .stuck)
  | none => .stuck
def min1F (d : D) (h : PH) : Res D := match itemsM h d with
  | some ds => (match intsOf ds with
    | some (n :: ns) => .ok (.int (minI (n :: ns))) h
    | _ => .stuck)
  | none => .stuck
theorem maxOf_spec : ∀ (xs : List Int) (x : Int), PySem.W.maxOf x xs ∈ x :: xs ∧ ∀ y ∈ x :: xs, y ≤ PySem.W.maxOf x xs
  | [], x => ⟨by simp [PySem.W.maxOf], fun y hy => by simp at hy; subst hy; exact Int.le_refl _⟩
  | z :: xs, x => by
    have e : PySem.W.maxOf x (z :: xs) = PySem.W.maxOf (if decide (x < z) = true then z else x) xs := rfl
    obtain ⟨h1, h2⟩ := maxOf_spec xs (if decide (x < z) = true then z else x)
    rw [e]
    by_cases c : x < z
    · rw [if_pos (decide_eq_true c)] at h1 h2 ⊢
      refine ⟨List.mem_cons_of_mem _ h1, fun y hy => ?_⟩
      rcases List.mem_cons.mp hy with q | q
      · have := h2 z List.mem_cons_self; omega
      · exact h2 y q
    · rw [if_neg (by simpa using c)] at h1 h2 ⊢
      refine ⟨?_, fun y hy => ?_⟩
      · rcases List.mem_cons.mp h1 with q | q
        · rw [q]; exact List.mem_cons_self
        · exact List.mem_cons_of_mem _ (List.mem_cons_of_mem _ q)
      · have hx := h2 x List.mem_cons_self
        rcases List.mem_cons.mp hy with q | q
        · omega
        · rcases List.mem_cons.mp q with q | q
          · omega
          · exact h2 y (List.mem_cons_of_mem _ q)
theorem minOf_spec : ∀ (xs : List Int) (x : Int), PySem.W.minOf x xs ∈ x :: xs ∧ ∀ y ∈ x :: xs, PySem.W.minOf x xs ≤ y
  | [], x => ⟨by simp [PySem.W.minOf], fun y hy => by simp at hy; subst hy; exact Int.le_refl _⟩
  | z :: xs, x => by
    have e : PySem.W.minOf x (z :: xs) = PySem.W.minOf (if decide (z < x) = true then z else x) xs := rfl
    obtain ⟨h1, h2⟩ := minOf_spec xs (if decide (z < x) = true then z else x)
    rw [e]
    by_cases c : z < x
    · rw [if_pos (decide_eq_true c)] at h1 h2 ⊢
      refine ⟨List.mem_cons_of_mem _ h1, fun y hy => ?_⟩
      rcases List.mem_cons.mp hy with q | q
      · have := h2 z List.mem_cons_self; omega
      · exact h2 y q
    · rw [if_neg (by simpa using c)] at h1 h2 ⊢
      refine ⟨?_, fun y hy => ?_⟩
      · rcases List.mem_cons.mp h1 with q | q
        · rw [q]; exact List.mem_cons_self
        · exact List.mem_cons_of_mem _ (List.mem_cons_of_mem _ q)
      · have hx := h2 x List.mem_cons_self
        rcases List.mem_cons.mp hy with q | q
        · omega
        · rcases List.mem_cons.mp q with q | q
          · omega
          · exact h2 y (List.mem_cons_of_mem _ q)
theorem maxOf_eq {n : Int} {ns : List Int} : PySem.W.maxOf n ns = maxI (n :: ns) := by
  have a := maxOf_spec ns n
  have b := maxI_spec (ns := n :: ns) (by simp)
  have := a.2 _ b.1
  have := b.2 _ a.1
  omega
theorem minOf_eq {n : Int} {ns : List Int} : PySem.W.minOf n ns = minI (n :: ns) := by
  have a := minOf_spec ns n
  have b := minI_spec (ns := n :: ns) (by simp)
  have := a.2 _ b.1
  have := b.2 _ a.1
  omega
theorem holds_ints {h : Heap} : ∀ {ns : List Int} {us : List Value}, Vals (ns.map V.int) us → PySem.W.HoldAll h us ns
  | [], _, .nil => PySem.W.HoldAll.nil
  | n :: ns, _, .cons r t => by
    obtain ⟨t', rfl⟩ := (show ∃ t, _ = Value.int n t from r)
    exact PySem.W.HoldAll.cons ⟨[], .int n t'⟩ (holds_ints t)
def rMaxA (K : PySem.W.Frag) : V → Hp → VK → Prop := fun x H Q => ∃ (a : Addr) (n : Int) (ns : List Int), x = V.ref a ∧ (SqL K H a ((n :: ns).map V.int) ∨ SqT K H a ((n :: ns).map V.int)) ∧ Q (.int (maxI (n :: ns))) H
def rMinA (K : PySem.W.Frag) : V → Hp → VK → Prop := fun x H Q => ∃ (a : Addr) (n : Int) (ns : List Int), x = V.ref a ∧ (SqL K H a ((n :: ns).map V.int) ∨ SqT K H a ((n :: ns).map V.int)) ∧ Q (.int (minI (n :: ns))) H
theorem itemsM_is {ρ : List Addr} {h : PH} {H : Hp} (x : At K ρ h H) {d : D} {v : V} {ds : List D} (e : itemsM h d = some ds) (r : RD K ρ H h.cs.length d v) : ∃ a xs, v = .ref a ∧ (SqL K H a xs ∨ SqT K H a xs) ∧ IsL K ρ H ds xs := by
  cases d with
  | tup es =>
    cases e
    have r1 := r.1
    unfold Is at r1
    obtain ⟨a, xs, rfl, s, i⟩ := r1
    exact ⟨a, xs, rfl, .inr s, i⟩
  | frl es =>
    have e : itemsL h (.frl es) = some ds := e
    obtain ⟨a, xs, rfl, s, i, _⟩ := itemsL_is x e r
    exact ⟨a, xs, rfl, .inl s, i⟩
  | ref m =>
    have e : itemsL h (.ref m) = some ds := e
    obtain ⟨a, xs, rfl, s, i, _⟩ := itemsL_is x e r
    exact ⟨a, xs, rfl, .inl s, i⟩
  | _ => cases e
theorem o_max1 : Op1 K W max1F (rMaxA K) := by
  intro σ ρ h H d x Q at_ rx p
  unfold max1F at p
  split at p
  · rename_i ds q
    split at p
    · rename_i n ns q2
      obtain ⟨a, xs, rfl, s, i⟩ := itemsM_is at_ q rx
      have e := intsOf_is q2 i
      subst e
      exact ⟨a, n, ns, rfl, s, p ρ _ H at_.refl is_int⟩
    · exact p.elim
  · exact p.elim
theorem o_min1 : Op1 K W min1F (rMinA K) := by
  intro σ ρ h H d x Q at_ rx p
  unfold min1F at p
  split at p
  · rename_i ds q
    split at p
    · rename_i n ns q2
      obtain ⟨a, xs, rfl, s, i⟩ := itemsM_is at_ q rx
      have e := intsOf_is q2 i
      subst e
      exact ⟨a, n, ns, rfl, s, p ρ _ H at_.refl is_int⟩
    · exact p.elim
  · exact p.elim
theorem c_max1 (hc : X.calm = true) (hu : X.A.units + 65 < cLine) : CallR X (.builtin "max") (fun xs H Q => ∃ x, xs = [x] ∧ rMaxA (kx X W) x H Q) := by
  intro pins s σ H xs us Q I r h
  obtain ⟨x, rfl, a, n, ns, rfl, sq, q⟩ := h
  rcases sq with sq | sq
  · have sp := maxI_spec (ns := n :: ns) (by simp)
    refine cr_max hc pins s σ H _ us Q I r ⟨a, n :: ns, rfl, sq, by simp, fun m hm hle => ?_⟩
    have e : m = maxI (n :: ns) := by have := sp.2 m hm; have := hle _ sp.1; omega
    rw [e]; exact q
  · obtain ⟨its, rv, ⟨o, p1, p2, n', p3⟩, _⟩ := I.tuple sq
    rw [Vals.ref1 r]
    refine PySem.W.max_tuple_datum (x := n) (xs := ns) (vs := its.toArray) (I.ok.hd hc) ?_ (by simpa using holds_ints (h := s.heap) rv) (by show X.A.units + 1 + 0 < _; omega) fun i v h' tk hi hv k => ?_
    · exact ⟨o, p1, p2, n', p3⟩
    · obtain ⟨as, hv⟩ := hv
      rw [maxOf_eq] at hv
      cases hv
      exact ⟨.int _, H, I.kept k, ⟨_, rfl⟩, q⟩
theorem c_min1 (hc : X.calm = true) (hu : X.A.units + 65 < cLine) : CallR X (.builtin "min") (fun xs H Q => ∃ x, xs = [x] ∧ rMinA (kx X W) x H Q) := by
  intro pins s σ H xs us Q I r h
  obtain ⟨x, rfl, a, n, ns, rfl, sq, q⟩ := h
  rcases sq with sq | sq
  · have sp := minI_spec (ns := n :: ns) (by simp)
    refine cr_min hc pins s σ H _ us Q I r ⟨a, n :: ns, rfl, sq, by simp, fun m hm hle => ?_⟩
    have e : m = minI (n :: ns) := by have := sp.2 m hm; have := hle _ sp.1; omega
    rw [e]; exact q
  · obtain ⟨its, rv, ⟨o, p1, p2, n', p3⟩, _⟩ := I.tuple sq
    rw [Vals.ref1 r]
    refine PySem.W.min_tuple_datum (x := n) (xs := ns) (vs := its.toArray) (I.ok.hd hc) ?_ (by simpa using holds_ints (h := s.heap) rv) (by show X.A.units + 1 + 0 < _; omega) fun i v h' tk hi hv k => ?_
    · exact ⟨o, p1, p2, n', p3⟩
    · obtain ⟨as, hv⟩ := hv
      rw [minOf_eq] at hv
      cases hv
      exact ⟨.int _, H, I.kept k, ⟨_, rfl⟩, q⟩
/-- the truth values of a list -/
def blsOf : List D → Option (List Bool)
  | [] => some []
  | .bl i :: r => (match blsOf r with
    | some l => some (i :: l)
    | none => none)
  | _ :: _ => none
theorem blsOf_is {ρ : List Addr} {H : Hp} : ∀ {ds : List D} {ns : List Bool} {xs : List V}, blsOf ds = some ns → IsL K ρ H ds xs → xs = ns.map V.bl
  | [], ns, xs, e, h => by cases e; exact h.nil
  | d :: ds, ns, xs, e, h => by
    unfold IsL at h
    obtain ⟨x, r, rfl, h1, h2⟩ := h
    cases d with
    | bl i =>
      have e' : (match blsOf ds with | some l => some (i :: l) | none => none) = some ns := e
      cases q : blsOf ds with
      | none => rw [q] at e'; cases e'
      | some l =>
        rw [q] at e'
        cases e'
        rw [h1.bl, blsOf_is q h2]; rfl
    | _ => cases e
def allF (d : D) (h : PH) : Res D := match itemsL h d with
  | some ds => (match blsOf ds with
    | some bs => .ok (.bl (bs.all id)) h
    | none => .stuck)
  | none => .stuck
def anyF (d : D) (h : PH) : Res D := match itemsL h d with
  | some ds => (match blsOf ds with
    | some bs => .ok (.bl (bs.any id)) h
    | none => .stuck)
  | none => .stuck
theorem o_all : Op1 K W allF (fun x H Q => ∃ (a : Addr) (bs : List Bool), x = V.ref a ∧ SqL K H a (bs.map V.bl) ∧ Q (.bl (bs.all id)) H) := by
  intro σ ρ h H d x Q at_ rx p
  unfold allF at p
  split at p
  · rename_i ds q
    split at p
    · rename_i ns q2
      obtain ⟨a, xs, rfl, s, i, l⟩ := itemsL_is at_ q rx
      have e := blsOf_is q2 i
      subst e
      exact ⟨a, ns, rfl, s, p ρ _ H at_.refl is_bl⟩
    · exact p.elim
  · exact p.elim
theorem o_any : Op1 K W anyF (fun x H Q => ∃ (a : Addr) (bs : List Bool), x = V.ref a ∧ SqL K H a (bs.map V.bl) ∧ Q (.bl (bs.any id)) H) := by
  intro σ ρ h H d x Q at_ rx p
  unfold anyF at p
  split at p
  · rename_i ds q
    split at p
    · rename_i ns q2
      obtain ⟨a, xs, rfl, s, i, l⟩ := itemsL_is at_ q rx
      have e := blsOf_is q2 i
      subst e
      exact ⟨a, ns, rfl, s, p ρ _ H at_.refl is_bl⟩
    · exact p.elim
  · exact p.elim
theorem c_all (hc : X.calm = true) : CallR X (.builtin "all") (fun xs H Q => ∃ x, xs = [x] ∧ ∃ (a : Addr) (bs : List Bool), x = V.ref a ∧ SqL (kx X W) H a (bs.map V.bl) ∧ Q (.bl (bs.all id)) H) := by
  intro pins s σ H xs us Q I r h
  obtain ⟨x, rfl, a, ns, rfl, q⟩ := h
  exact cr_all hc pins s σ H _ us Q I r ⟨a, ns, rfl, q⟩
theorem c_any (hc : X.calm = true) : CallR X (.builtin "any") (fun xs H Q => ∃ x, xs = [x] ∧ ∃ (a : Addr) (bs : List Bool), x = V.ref a ∧ SqL (kx X W) H a (bs.map V.bl) ∧ Q (.bl (bs.any id)) H) := by
  intro pins s σ H xs us Q I r h
  obtain ⟨x, rfl, a, ns, rfl, q⟩ := h
  exact cr_any hc pins s σ H _ us Q I r ⟨a, ns, rfl, q⟩
end
end Dy

/-! Calls of defs; methods; statements; loops. -/
namespace Dy
open PySem PySem.Spec PyProof.Rows L2
/-! ### what a def promises -/
abbrev Fn := List D → PH → Res D
def PostF (K : KX) (Q : VK) (E : XK) (ρ : List Addr) (H : Hp) : Res D → Prop
  | .ok d h' => ∀ ρ' v H', Ext K ρ H h' ρ' H' → RD K ρ' H' h'.cs.length d v → Q v H'
  | .exc c h' => ∀ ρ' H', Ext K ρ H h' ρ' H' → E (.ref (He.ga K c)) none H'
  | .stuck => False
def spD (K : KX) (n : Nat) (f : Fn) : Sp := fun vs H Q E => vs.length = n ∧ ∃ ρ ds h, At K ρ h H ∧ RL K ρ H h.cs.length ds vs ∧ PostF K Q E ρ H (f ds h)
section
variable {X : Cx} {W : WJ}
theorem da_len {K : KX} {ρ : List Addr} {H : Hp} {n : Nat} {ds : List D} {vs : List V} (r : RL K ρ H n ds vs) : vs.length = ds.length := r.1.length
/-- a call with n arguments -/
def callF (n : Nat) (f : Fn) : Fn := fun ds h => if ds.length = n then f ds h else .stuck
theorem t_call {K : KX} {w : WX} {hx : Option (Nat × Addr)} {n : Nat} {f : Fn} {m : AM} {σ : L2.St} {H : Hp} {Q : VK} (t : tE K ⟨w, hx⟩ (nA (callF n f) m) σ H Q) : tCallS (spD K n f) (WE w) (tA K ⟨w, hx⟩ m) σ H Q := by
  obtain ⟨ρ, env, h, rl, p⟩ := t
  refine tG_mono (PostG.bind (R := RL K) rl p) fun b H1 ⟨ρ1, h1, a1, x1, ra1, p1⟩ => ?_
  unfold callF at p1
  split at p1
  · rename_i hl
    refine ⟨by rw [ra1.1.length]; exact hl, ρ1, a1, h1, x1.at, ra1, ?_⟩
    cases e : f a1 h1 with
    | stuck => rw [e] at p1; exact p1
    | exc c h2 => rw [e] at p1; exact p1
    | ok d h2 => rw [e] at p1; exact p1
  · exact p1.elim
theorem de_call {x : Str} {p pos : Pos} {e : Expr} {es : List Expr} {m : AM} {k n : Nat} {a : Addr} {fd : FuncData} {ps : List Str} {f : Fn} {w : WX} (F : FnOk X.prog X.w X.K X.mg X.base (L2.CX X.prog X.w) k a fd ps (spD ⟨X.K, none, (X.prog, X.w)⟩ n f)) (hr : Room k X.A) (hg : Gl X x)
    (hm : X.mg x = some (.ref a)) (hk : PySem.W.keepIn X.K (.ref a) = true) (hb : Binds X.K fd ps []) (tk : Takes X w) (ha : DA X ⟨w, none⟩ (e :: es) m) (hdb : (x == ("__debug__" : Str)) = false) (ns : noStars (e :: es) = true) : DE X ⟨w, none⟩ (.Call (.Name x p) (e :: es) [] pos) (nA (callF n f) m) :=
  pe_imp (pe_callS F hr hg hm hk hb (fun σ => passAt tk σ) ha hdb (star_no (noStars_head ns).1 es _) (noStars_any (noStars_head ns).2 pos _)) fun σ H Q t => t_call t
/-- no arguments -/
theorem de_call0 {x : Str} {p pos : Pos} {k : Nat} {a : Addr} {fd : FuncData} {ps : List Str} {f : Fn} {w : WX} (F : FnOk X.prog X.w X.K X.mg X.base (L2.CX X.prog X.w) k a fd ps (spD ⟨X.K, none, (X.prog, X.w)⟩ 0 f)) (hr : Room k X.A) (hg : Gl X x)
    (hm : X.mg x = some (.ref a)) (hk : PySem.W.keepIn X.K (.ref a) = true) (hb : Binds X.K fd ps []) (tk : Takes X w) (hdb : (x == ("__debug__" : Str)) = false) : DE X ⟨w, none⟩ (.Call (.Name x p) [] [] pos) (nA (callF 0 f) nilA) := by
  refine ⟨fun pins s σ H Q I h => ?_⟩
  refine wpAny_Call_Name_kw (ld_glob I hg hm ?_ hdb)
  have q : tA ⟨X.K, none, (X.prog, X.w)⟩ ⟨w, none⟩ nilA σ H fun vs H1 => spD ⟨X.K, none, (X.prog, X.w)⟩ 0 f vs H1 Q (WE w σ) := t_call h
  obtain ⟨ρ, env, h', rl, p⟩ := q
  have p : ∀ ρ' b H', Ext ⟨X.K, none, (X.prog, X.w)⟩ ρ H h' ρ' H' → RL ⟨X.K, none, (X.prog, X.w)⟩ ρ' H' h'.cs.length [] b → spD ⟨X.K, none, (X.prog, X.w)⟩ 0 f b H' Q (WE w σ) := p
  have q2 := p ρ [] H rl.refl ⟨by unfold IsL; rfl, Nat.zero_le _⟩
  refine PySem.W.callWith_K0 I.kIn hk ?_
  exact run_fnS (us := []) F hr hb (passAt tk σ) I .nil q2

/-- a call of a value that is a def -/
def callVF (T : Str → Option (Nat × Fn)) (o : EM) (m : AM) : EM := fun e h => (o e h).bind fun d h1 => match d with
  | .glb x => (match T x with
    | some (n, k) => nA (callF n k) m e h1
    | none => .stuck)
  | _ => .stuck
/-- how a call is begun -/
def CallAs (X : Cx) (fn : Expr) (args : List Expr) (pos : Pos) : Prop := ∀ (s : Shared) (Q : Value → Shared → Prop), wpAny (model X.prog X.w) X.A (eval fn X.env) (fun f s₁ => wpAny (model X.prog X.w) X.A (callWith pos f [] (backTo pos (starEach args X.env)) []) Q X.xe s₁) X.xe s → wpAny (model X.prog X.w) X.A (eval (.Call fn args [] pos) X.env) Q X.xe s
def TabFn (X : Cx) (T : Str → Option (Nat × Fn)) (k : Nat) : Prop := ∀ x n f, T x = some (n, f) → ∃ a fd ps, X.mg x = some (.ref a) ∧ PySem.W.keepIn X.K (.ref a) = true ∧ Binds X.K fd ps [] ∧ FnOk X.prog X.w X.K X.mg X.base (L2.CX X.prog X.w) k a fd ps (spD ⟨X.K, none, (X.prog, X.w)⟩ n f) ∧ a = He.ga X.K x
theorem t_callV {T : Str → Option (Nat × Fn)} {k : Nat} {mo : EM} {ma : AM} {w : WX} (hT : TabFn X T k) {σ : L2.St} {H : Hp} {Q : VK} (t : tE ⟨X.K, none, (X.prog, X.w)⟩ ⟨w, none⟩ (callVF T mo ma) σ H Q) :
    tE ⟨X.K, none, (X.prog, X.w)⟩ ⟨w, none⟩ mo σ H fun v H1 => ∃ x n f, T x = some (n, f) ∧ v = .ref (He.ga X.K x) ∧ tA ⟨X.K, none, (X.prog, X.w)⟩ ⟨w, none⟩ ma σ H1 fun vs H2 => spD ⟨X.K, none, (X.prog, X.w)⟩ n f vs H2 Q (WE w σ) := by
  obtain ⟨ρ, env, h, rl, p⟩ := t
  refine tG_mono (PostG.bind (R := RD ⟨X.K, none, (X.prog, X.w)⟩) rl p) fun b H1 ⟨ρ1, h1, a1, x1, ra1, p1⟩ => ?_
  cases a1 with
  | glb x =>
    have eb : b = .ref (He.ga X.K x) := by
      have := ra1.1
      unfold Is at this
      exact this
    cases e : T x with
    | none =>
      simp only [e] at p1
      exact p1.elim
    | some nf =>
      obtain ⟨n, f⟩ := nf
      simp only [e] at p1
      exact ⟨x, n, f, e, eb, t_call ⟨ρ1, env, h1, rl.ext x1, p1⟩⟩
  | _ => exact p1.elim
theorem de_callV {fn e : Expr} {es : List Expr} {pos : Pos} {T : Str → Option (Nat × Fn)} {k : Nat} {mo : EM} {ma : AM} {w : WX} (hT : TabFn X T k) (hr : Room k X.A) (tk : Takes X w) (ho : DE X ⟨w, none⟩ fn mo) (ha : DA X ⟨w, none⟩ (e :: es) ma) (ns : noStars (e :: es) = true)
    (hc : CallAs X fn (e :: es) pos) : DE X ⟨w, none⟩ (.Call fn (e :: es) [] pos) (callVF T mo ma) := by
  refine ⟨fun pins s σ H Q I h => hc _ _ ?_⟩
  refine thn (ho.run pins s σ H _ I (t_callV hT h)) fun u s1 ⟨v, H1, I1, rv, x, n, f, ex, ev, q⟩ => ?_
  subst ev
  obtain rfl : u = Value.ref (He.ga X.K x) := rv
  obtain ⟨a, fd, ps, h1, h2, h3, h4, rfl⟩ := hT x n f ex
  refine PySem.W.callWith_K (h₀ := X.base) I1.ok.mod.kin h2 (thn (ha.run pos pins s1 σ H1 _ I1 q) fun us s2 ⟨vs, H2, I2, r, q2⟩ => ⟨I2.kIn, ?_⟩) (star_no (noStars_head ns).1 es _) (noStars_any (noStars_head ns).2 pos _)
  exact run_fnS h4 hr h3 (passAt tk σ) I2 r q2
theorem de_callV0 {fn : Expr} {pos : Pos} {T : Str → Option (Nat × Fn)} {k : Nat} {mo : EM} {w : WX} (hT : TabFn X T k) (hr : Room k X.A) (tk : Takes X w) (ho : DE X ⟨w, none⟩ fn mo) (hc : CallAs X fn [] pos) : DE X ⟨w, none⟩ (.Call fn [] [] pos) (callVF T mo nilA) := by
  refine ⟨fun pins s σ H Q I h => hc _ _ ?_⟩
  refine thn (ho.run pins s σ H _ I (t_callV hT h)) fun u s1 ⟨v, H1, I1, rv, x, n, f, ex, ev, q⟩ => ?_
  subst ev
  obtain rfl : u = Value.ref (He.ga X.K x) := rv
  obtain ⟨a, fd, ps, h1, h2, h3, h4, rfl⟩ := hT x n f ex
  obtain ⟨ρ, env, h', rl, p⟩ := q
  have p : ∀ ρ' b H', Ext ⟨X.K, none, (X.prog, X.w)⟩ ρ H1 h' ρ' H' → RL ⟨X.K, none, (X.prog, X.w)⟩ ρ' H' h'.cs.length [] b → spD ⟨X.K, none, (X.prog, X.w)⟩ n f b H' Q (WE w σ) := p
  have q2 := p ρ [] H1 rl.refl ⟨by unfold IsL; rfl, Nat.zero_le _⟩
  refine PySem.W.callWith_K0 I1.kIn h2 ?_
  exact run_fnS (us := []) h4 hr h3 (passAt tk σ) I1 .nil q2
/-! ### methods of lists and texts -/
/-- the receiver's type is told ahead of the arguments: it keeps it -/
def tyOk (T : String) (h : PH) : D → Bool
  | .str _ => T == "str"
  | .frl _ => T == "list"
  | .ref n => (match h.cs[n]? with
    | some (.lst _) => T == "list"
    | some (.dict _) => T == "dict"
    | _ => false)
  | _ => false
def mtE (T : String) (f : D → List D → PH → Res D) (o : EM) (a : AM) : EM := fun e h => (o e h).bind fun x h1 => if tyOk T h1 x = true then (a e h1).bind fun xs h2 => f x xs h2 else .stuck
theorem tyOk_is {K : KX} {ρ : List Addr} {h : PH} {H : Hp} (at_ : At K ρ h H) {T : String} {d : D} {v : V} (t : tyOk T h d = true) (r : RD K ρ H h.cs.length d v) : tyV K T v H := by
  cases d with
  | str z => rw [r.1.str]; exact eq_of_beq t
  | frl ds =>
    obtain ⟨a, xs, rfl, s, _⟩ := r.1.frl
    exact .inl ⟨eq_of_beq t, xs, s.sq⟩
  | ref n =>
    have t' : (match h.cs[n]? with
    | some (.lst _) => T == "list"
    | some (.dict _) => T == "dict"
    | _ => false) = true := t
    split at t'
    · rename_i ds q
      obtain ⟨a, xs, rfl, _, h1, _⟩ := at_.lst q r.1
      exact .inl ⟨eq_of_beq t', xs, SqL.of h1⟩
    · rename_i kvs q
      obtain ⟨a, xs, rfl, _, h1, _⟩ := at_.dct q r.1
      exact .inr (.inr (.inl ⟨eq_of_beq t', .inl ⟨xs, h1⟩⟩))
    · cases t'
  | _ => cases t
theorem t_mt {K : KX} {T : String} {f : D → List D → PH → Res D} {r : V → List V → Hp → VK → Prop} (hf : OpM K W f r) {mo : EM} {ma : AM} {σ : L2.St} {H : Hp} {Q : VK} (t : tE K W (mtE T f mo ma) σ H Q) :
    tE K W mo σ H fun x H1 => tyV K T x H1 ∧ tA K W ma σ H1 fun xs H2 => r x xs H2 Q := by
  obtain ⟨ρ, env, h, rl, p⟩ := t
  refine tG_mono (PostG.bind (R := RD K) rl p) fun b H1 ⟨ρ1, h1, a1, x1, ra1, p1⟩ => ?_
  split at p1
  · rename_i ty
    refine ⟨tyOk_is x1.at ty ra1, ?_⟩
    refine tG_mono (PostG.bind (R := RL K) (rl.ext x1) p1) fun b2 H2 ⟨ρ2, h2, a2, x2, ra2, p2⟩ => ?_
    exact hf σ ρ2 h2 H2 a1 b a2 b2 Q x2.at (ra1.ext x2 (rl.ext x1).len) ra2 p2
  · exact p1.elim
/-- the receiver is no bare call of super -/
def baseOk : Expr → Bool
  | .Call (.Name _ _) [] [] _ => false
  | _ => true
theorem baseOk_is {o : Expr} (h : baseOk o = true) (m : Str) (env : PySem.Env) (whole : Sem Value) : attributeBase o m env whole = whole := by
  cases o with
  | Call f as ks pos =>
    cases f with
    | Name id p =>
      cases as with
      | nil =>
        cases ks with
        | nil => cases h
        | cons _ _ => rfl
      | cons _ _ => rfl
    | _ => rfl
  | _ => rfl
theorem noStars_all : ∀ {es : List Expr} (h : noStars es = true) (pos : Pos) (env : PySem.Env), (backTo pos (starEach es env)).all (fun x => !x.1) = true
  | [], _, _, _ => rfl
  | e :: es, h, pos, env => by
    obtain ⟨h1, h2⟩ := noStars_head h
    rw [star_no h1 es env]
    show (!false && (backTo pos (starEach es env)).all (fun x => !x.1)) = true
    rw [noStars_all h2 pos env]; rfl
theorem de_mt {T id : String} {name : Str} {o e : Expr} {es : List Expr} {apos cpos : Pos} {mo : EM} {ma : AM} {f : D → List D → PH → Res D} {r : V → List V → Hp → VK → Prop} (pa : PlainAttrs T) (slot : Slot T name id) (hty : typeOf (.builtin id) = pure (.type "method_descriptor"))
    (hm : MtR X id r) (hf : OpM (kx X W) W f r) (ho : DE X W o mo) (ha : DA X W (e :: es) ma) (bo : baseOk o = true) (ns : noStars (e :: es) = true) (hl : (apos.endLine == cpos.line) = true) (few : (e :: es).length < 30) :
    DE X W (.Call (.Attribute o name apos) (e :: es) [] cpos) (mtE T f mo ma) :=
  pe_imp (pe_bm pa slot hty hm ho ha (baseOk_is bo _ _ _) (by
    rw [noStars_all ns cpos X.env, decide_eq_true (by simpa using few)]; rfl) hl (star_no (noStars_head ns).1 es _) (noStars_any (noStars_head ns).2 cpos _)) fun σ H Q t => t_mt hf t
theorem de_mt0 {T id : String} {name : Str} {o : Expr} {apos cpos : Pos} {mo : EM} {f : D → List D → PH → Res D} {r : V → List V → Hp → VK → Prop} (pa : PlainAttrs T) (slot : Slot T name id) (hty : typeOf (.builtin id) = pure (.type "method_descriptor"))
    (hm : MtR X id r) (hf : OpM (kx X W) W f r) (ho : DE X W o mo) (bo : baseOk o = true) (hl : (apos.endLine == cpos.line) = true) :
    DE X W (.Call (.Attribute o name apos) [] [] cpos) (mtE T f mo nilA) :=
  pe_imp (pe_bm0 pa slot hty hm ho (baseOk_is bo _ _ _) hl) fun σ H Q t => by
    obtain ⟨ρ, env, h, rl, p⟩ := t_mt hf t
    refine ⟨ρ, env, h, rl, ?_⟩
    cases e : mo env h with
    | stuck => rw [e] at p; exact p
    | exc c h1 => rw [e] at p; exact p
    | ok a h1 =>
      rw [e] at p
      intro ρ1 b H1 x1 rb
      obtain ⟨ty, ρ2, env2, h2, rl2, p2⟩ := p ρ1 b H1 x1 rb
      exact ⟨ty, p2 ρ2 [] H1 rl2.refl ⟨by unfold IsL; rfl, Nat.zero_le _⟩⟩
/-- an operation that writes a list -/
theorem put_lst {K : KX} {ρ : List Addr} {h : PH} {H : Hp} (x : At K ρ h H) {n : Nat} {a : Addr} (ha : ρ[n]? = some a) {ds : List D} {xs : List V} (i : IsL K ρ H ds xs) (l : mrL ds ≤ h.cs.length) : Ext K ρ H (h.put n (.lst ds)) ρ (upd H a (.lst xs)) :=
  Ext.put x.heap x.wf ha l fun H' e k => ⟨xs, e, IsL.mono k ρ.length (fun i _ a ha => ha) ds xs (by rw [x.heap.len]; exact l) i⟩
theorem put_len (h : PH) (n : Nat) (c : Cell) : (h.put n c).cs.length = h.cs.length := by
  show (h.cs.set n c).length = _
  rw [List.length_set]
def appF (d : D) (as : List D) (h : PH) : Res D := match refLst h d, as with
  | some (n, ds), [a] => if ds.length < 16777216 then .ok .non (h.put n (.lst (ds ++ [a]))) else .stuck
  | _, _ => .stuck
theorem IsL.one {K : KX} {ρ : List Addr} {H : Hp} {d : D} {xs : List V} (h : IsL K ρ H [d] xs) : ∃ v, xs = [v] ∧ Is K ρ H d v := by
  unfold IsL at h
  obtain ⟨x, r, rfl, h1, h2⟩ := h
  rw [h2.nil]
  exact ⟨x, rfl, h1⟩
theorem mrL_one {d : D} {n : Nat} (h : mrL [d] ≤ n) : d.mr ≤ n := by unfold mrL at h; omega
theorem o_app : OpM (kx X W) W appF rAppend := by
  intro σ ρ h H d x ds xs Q at_ rx ra p
  unfold appF at p
  split at p
  · rename_i n es a q
    split at p
    · rename_i c
      obtain ⟨_, _, b, ys, rfl, hb, h1, i, l⟩ := refLst_is at_ q rx
      obtain ⟨v, rfl, iv⟩ := ra.1.one
      have la := mrL_one ra.2
      refine ⟨b, ys, v, rfl, rfl, h1, by rw [sizeLine_eq, i.length]; exact c, ?_⟩
      have i2 : IsL (kx X W) ρ H (es ++ [a]) (ys ++ [v]) := i.append ra.1
      exact p ρ _ _ (put_lst at_ hb i2 (by rw [mrL_append]; exact Nat.max_le.mpr ⟨l, ra.2⟩)) is_non
    · exact p.elim
  · exact p.elim
/-- xs.pop() -/
def popF (d : D) (as : List D) (h : PH) : Res D := match refLst h d, as with
  | some (n, ds), [] => (match ds[ds.length - 1]? with
    | some y => .ok y (h.put n (.lst ds.dropLast))
    | none => .stuck)
  | _, _ => .stuck
theorem IsL.dropLast {K : KX} {ρ : List Addr} {H : Hp} {ds : List D} {xs : List V} (h : IsL K ρ H ds xs) : IsL K ρ H ds.dropLast xs.dropLast := by
  rw [List.dropLast_eq_take, List.dropLast_eq_take, h.length]
  exact h.take _
theorem o_pop : OpM (kx X W) W popF rPop := by
  intro σ ρ h H d x ds xs Q at_ rx ra p
  unfold popF at p
  split at p
  · rename_i n es q
    split at p
    · rename_i y qy
      obtain ⟨_, _, b, ys, rfl, hb, h1, i, l⟩ := refLst_is at_ q rx
      have e0 := ra.1.nil
      obtain ⟨v, e1, iv⟩ := i.get qy
      rw [← i.length] at e1
      refine ⟨b, ys, v, rfl, e0, h1, e1, ?_⟩
      have ly : y.mr ≤ h.cs.length := Nat.le_trans (mrL_get qy) l
      have l2 : mrL es.dropLast ≤ h.cs.length := by rw [List.dropLast_eq_take]; exact Nat.le_trans mrL_take l
      have x2 := put_lst at_ hb i.dropLast l2
      refine p ρ _ _ x2 ⟨x2.is (by rw [at_.heap.len]; exact ly) iv, by rw [put_len]; exact ly⟩
    · exact p.elim
  · exact p.elim
/-- the texts of a list -/
def strsOf : List D → Option (List Str)
  | [] => some []
  | .str i :: r => (match strsOf r with
    | some l => some (i :: l)
    | none => none)
  | _ :: _ => none
theorem strsOf_is {K : KX} {ρ : List Addr} {H : Hp} : ∀ {ds : List D} {ns : List Str} {xs : List V}, strsOf ds = some ns → IsL K ρ H ds xs → xs = ns.map V.str
  | [], ns, xs, e, h => by cases e; exact h.nil
  | d :: ds, ns, xs, e, h => by
    unfold IsL at h
    obtain ⟨x, r, rfl, h1, h2⟩ := h
    cases d with
    | str i =>
      have e' : (match strsOf ds with | some l => some (i :: l) | none => none) = some ns := e
      cases q : strsOf ds with
      | none => rw [q] at e'; cases e'
      | some l =>
        rw [q] at e'
        cases e'
        rw [h1.str, strsOf_is q h2]; rfl
    | _ => cases e
def joinF (d : D) (as : List D) (h : PH) : Res D := match d, as with
  | .str a, [l] => (match itemsS h l with
    | some ds => (match strsOf ds with
      | some ys => if (ys.map (·.length)).sum + ys.length * a.length ≤ 16777216 then .ok (.str (Txt.join a ys)) h else .stuck
      | none => .stuck)
    | none => .stuck)
  | _, _ => .stuck
theorem o_join : OpM (kx X W) W joinF (fun x xs H Q => ∃ a p, ∃ ys : List Str, x = .str a ∧ xs = [.ref p] ∧ (SqL (kx X W) H p (ys.map V.str) ∨ SqT (kx X W) H p (ys.map V.str)) ∧ (ys.map (·.length)).sum + ys.length * a.length ≤ 16777216 ∧ Q (.str (Txt.join a ys)) H) := by
  intro σ ρ h H d x ds xs Q at_ rx ra p
  unfold joinF at p
  split at p
  · rename_i a l
    split at p
    · rename_i es q
      split at p
      · rename_i ys q2
        split at p
        · rename_i c
          obtain ⟨v, rfl, iv⟩ := ra.1.one
          obtain ⟨b, zs, rfl, s, i, _⟩ := itemsS_is at_ q ⟨iv, mrL_one ra.2⟩
          have e := strsOf_is q2 i
          subst e
          exact ⟨a, b, ys, rx.1.str, rfl, s, c, p ρ _ H at_.refl is_str⟩
        · exact p.elim
      · exact p.elim
    · exact p.elim
  · exact p.elim
def splitF (d : D) (as : List D) (h : PH) : Res D := match d, as with
  | .str a, [.str b] => if (b.length == 0) = false ∧ a.length + 2 ≤ 16777216 then newL ((Txt.split a b).map D.str) h else .stuck
  | _, _ => .stuck
theorem isL_strs {K : KX} {ρ : List Addr} {H : Hp} : ∀ (l : List Str), IsL K ρ H (l.map D.str) (l.map V.str)
  | [] => by show IsL K ρ H [] []; unfold IsL; rfl
  | x :: l => by
    show IsL K ρ H (D.str x :: l.map D.str) (V.str x :: l.map V.str)
    unfold IsL
    exact ⟨_, _, rfl, by unfold Is; rfl, isL_strs l⟩
theorem mrL_strs : ∀ (l : List Str), mrL (l.map D.str) = 0
  | [] => rfl
  | x :: l => by
    show max 0 (mrL (l.map D.str)) = 0
    rw [mrL_strs l]; rfl
theorem o_split : OpM (kx X W) W splitF (fun x xs H Q => ∃ a b, x = .str a ∧ xs = [.str b] ∧ (b.length == 0) = false ∧ a.length + 2 ≤ sizeLine ∧ rNewStrs (Txt.split a b) H Q) := by
  intro σ ρ h H d x ds xs Q at_ rx ra p
  unfold splitF at p
  split at p
  · rename_i a b
    split at p
    · rename_i c
      obtain ⟨v, rfl, iv⟩ := ra.1.one
      refine ⟨a, b, rx.1.str, by rw [iv.str], c.1, by rw [sizeLine_eq]; exact c.2, fun q hq => ?_⟩
      obtain ⟨ρ', e1, e2⟩ := push_lst at_ (isL_strs (Txt.split a b)) (by rw [mrL_strs]; exact Nat.zero_le _) hq
      exact p ρ' _ _ e1 e2
    · exact p.elim
  · exact p.elim

/-- text.index(sub, start), where it is found -/
theorem mt_indexFrom : MtR X "str.index" (fun x xs H Q => ∃ (a b : Str) (i : Int) (k : Nat), x = .str a ∧ xs = [.str b, .int i] ∧ PySem.Txt.indexFrom a b i = some k ∧ Q (.int (k : Nat)) H) := by
  intro pins s σ H x xs v us Q I rx rs h
  obtain ⟨a, b, i, k, e1, e2, ho, q⟩ := h
  subst e1
  subst e2
  obtain ⟨t, e⟩ := rx
  subst e
  cases rs with
  | cons r1 rs =>
    cases rs with
    | cons r2 rs =>
      cases rs
      obtain ⟨t2, e⟩ := r1
      subst e
      obtain ⟨t3, e⟩ := r2
      subst e
      unfold PySem.Txt.indexFrom at ho
      cases e : PySem.Builtin.Str.occurrences a b (PySem.fromIndex a.length i) a.length 1 with
      | nil => rw [e] at ho; cases ho
      | cons j rest =>
        rw [e] at ho
        have ej : j = k := by simpa using ho
        subst ej
        exact call_gives PySem.F.slot_str_index (typeIs_str _ _ _) PySem.F.entry_str_index (PySem.F.args_str_index_3 _ _ _) (gives_str_index_from a b i t t2 t3 j rest e) ⟨.int (j : Nat), H, I.tok _, ⟨_, rfl⟩, q⟩
def indexF (d : D) (as : List D) (h : PH) : Res D := match d, as with
  | .str a, [.str b, .int i] => (match PySem.Txt.indexFrom a b i with
    | some k => .ok (.int (k : Nat)) h
    | none => .stuck)
  | _, _ => .stuck
theorem o_index : OpM (kx X W) W indexF (fun x xs H Q => ∃ (a b : Str) (i : Int) (k : Nat), x = .str a ∧ xs = [.str b, .int i] ∧ PySem.Txt.indexFrom a b i = some k ∧ Q (.int (k : Nat)) H) := by
  intro σ ρ h H d x ds xs Q at_ rx ra p
  unfold indexF at p
  split at p
  · rename_i a b i
    split at p
    · rename_i k e
      have iv := ra.1
      unfold IsL at iv
      obtain ⟨v, r, rfl, i1, i2⟩ := iv
      obtain ⟨u, rfl, i3⟩ := i2.one
      exact ⟨a, b, i, k, rx.1.str, by rw [i1.str, i3.int], e, p ρ _ H at_.refl is_int⟩
    · exact p.elim
  · exact p.elim
/-! ### sorted ints -/
def insI (n : Int) : List Int → List Int
  | [] => [n]
  | m :: r => if n ≤ m then n :: m :: r else m :: insI n r
def sortI : List Int → List Int
  | [] => []
  | n :: r => insI n (sortI r)
theorem insI_perm (n : Int) : ∀ l : List Int, (insI n l).Perm (n :: l)
  | [] => .refl _
  | m :: r => by
    show (if n ≤ m then n :: m :: r else m :: insI n r).Perm (n :: m :: r)
    split
    · exact .refl _
    · exact ((insI_perm n r).cons m).trans (.swap n m r)
theorem sortI_perm : ∀ l : List Int, (sortI l).Perm l
  | [] => .refl _
  | n :: r => (insI_perm n (sortI r)).trans ((sortI_perm r).cons n)
theorem insI_sorted (n : Int) : ∀ {l : List Int}, l.Pairwise (· ≤ ·) → (insI n l).Pairwise (· ≤ ·)
  | [], _ => by show [n].Pairwise _; simp
  | m :: r, h => by
    show (if n ≤ m then n :: m :: r else m :: insI n r).Pairwise (· ≤ ·)
    obtain ⟨h1, h2⟩ := List.pairwise_cons.mp h
    split
    · rename_i c
      refine List.pairwise_cons.mpr ⟨fun y hy => ?_, h⟩
      rcases List.mem_cons.mp hy with e | e
      · rw [e]; exact c
      · exact Int.le_trans c (h1 y e)
    · rename_i c
      refine List.pairwise_cons.mpr ⟨fun y hy => ?_, insI_sorted n h2⟩
      rcases List.mem_cons.mp ((insI_perm n r).mem_iff.mp hy) with e | e
      · rw [e]; omega
      · exact h1 y e
theorem sortI_sorted : ∀ l : List Int, (sortI l).Pairwise (· ≤ ·)
  | [] => List.Pairwise.nil
  | n :: r => insI_sorted n (sortI_sorted r)
theorem sorted_unique : ∀ {l m : List Int}, l.Perm m → l.Pairwise (· ≤ ·) → m.Pairwise (· ≤ ·) → l = m
  | [], m, p, _, _ => (List.Perm.nil_eq p)
  | a :: l, [], p, _, _ => absurd p.length_eq (by simp)
  | a :: l, b :: m, p, h1, h2 => by
    obtain ⟨a1, a2⟩ := List.pairwise_cons.mp h1
    obtain ⟨b1, b2⟩ := List.pairwise_cons.mp h2
    have e : a = b := by
      have ha : a ∈ b :: m := p.mem_iff.mp List.mem_cons_self
      have hb : b ∈ a :: l := p.mem_iff.mpr List.mem_cons_self
      rcases List.mem_cons.mp ha with e | e
      · exact e
      · rcases List.mem_cons.mp hb with e' | e'
        · exact e'.symm
        · have := b1 a e; have := a1 b e'; omega
    subst e
    rw [sorted_unique (List.Perm.cons_inv p) a2 b2]
def sortedF (d : D) (h : PH) : Res D := match itemsL h d with
  | some ds => (match intsOf ds with
    | some ns => newL ((sortI ns).map D.int) h
    | none => .stuck)
  | none => .stuck
theorem isL_ints {K : KX} {ρ : List Addr} {H : Hp} : ∀ (l : List Int), IsL K ρ H (l.map D.int) (l.map V.int)
  | [] => by show IsL K ρ H [] []; unfold IsL; rfl
  | x :: l => by
    show IsL K ρ H (D.int x :: l.map D.int) (V.int x :: l.map V.int)
    unfold IsL
    exact ⟨_, _, rfl, by unfold Is; rfl, isL_ints l⟩
theorem mrL_ints : ∀ (l : List Int), mrL (l.map D.int) = 0
  | [] => rfl
  | x :: l => by
    show max 0 (mrL (l.map D.int)) = 0
    rw [mrL_ints l]; rfl
theorem o_sorted : Op1 (kx X W) W sortedF (fun x H Q => ∃ (a : Addr) (ns : List Int), x = V.ref a ∧ SqL (kx X W) H a (ns.map V.int) ∧ ∀ (ns' : List Int) (p : Addr), ns'.Perm ns → ns'.Pairwise (· ≤ ·) → H p = none → Q (.ref p) (upd H p (.lst (ns'.map V.int)))) := by
  intro σ ρ h H d x Q at_ rx p
  unfold sortedF at p
  split at p
  · rename_i ds q
    split at p
    · rename_i ns q2
      obtain ⟨a, xs, rfl, s, i, l⟩ := itemsL_is at_ q rx
      have e := intsOf_is q2 i
      subst e
      refine ⟨a, ns, rfl, s, fun ns' q pm sr hq => ?_⟩
      have e := sorted_unique (pm.trans (sortI_perm ns).symm) sr (sortI_sorted ns)
      subst e
      obtain ⟨ρ', e1, e2⟩ := push_lst at_ (isL_ints (sortI ns)) (by rw [mrL_ints]; exact Nat.zero_le _) hq
      exact p ρ' _ _ e1 e2
    · exact p.elim
  · exact p.elim
theorem c_sorted : CallR X (.builtin "sorted") (fun xs H Q => ∃ x, xs = [x] ∧ ∃ (a : Addr) (ns : List Int), x = V.ref a ∧ SqL (kx X W) H a (ns.map V.int) ∧ ∀ (ns' : List Int) (p : Addr), ns'.Perm ns → ns'.Pairwise (· ≤ ·) → H p = none → Q (.ref p) (upd H p (.lst (ns'.map V.int)))) := by
  intro pins s σ H xs us Q I r h
  obtain ⟨x, rfl, a, ns, rfl, q⟩ := h
  exact cr_sortedI pins s σ H _ us Q I r ⟨a, ns, rfl, q⟩
/-! ### d.get(k, x), a dict's display -/
def dgetF (x : D) (as : List D) (h : PH) : Res D := match x, as with
  | .ref n, [y, z] => (match h.cs[n]? with
    | some (.dict kvs) => (match keyD y with
      | some k => .ok ((dGetL kvs k).getD z) h
      | none => .stuck)
    | _ => .stuck)
  | _, _ => .stuck
def dget1F (x : D) (as : List D) (h : PH) : Res D := match x, as with
  | .ref n, [y] => (match h.cs[n]? with
    | some (.dict kvs) => (match keyD y with
      | some k => .ok ((dGetL kvs k).getD .non) h
      | none => .stuck)
    | _ => .stuck)
  | _, _ => .stuck
def rDGet2 : V → List V → Hp → VK → Prop := fun x xs H Q => ∃ a y z o, x = .ref a ∧ xs = [y, z] ∧ DGet H a y o ∧ Q (o.getD z) H
theorem mt_dget2 (hu : X.A.units + 1 < cLine) : MtR X "dict.get" rDGet2 := by
  intro pins s σ H x xs v us Q I rx rs q
  obtain ⟨a, y, z, o, rfl, rfl, g, q⟩ := q
  cases rx
  cases rs with
  | cons r1 rs =>
    cases rs with
    | cons r2 rs =>
      cases rs
      exact d_get2 hu I g r1 r2 fun w' s' I' rw' => ⟨_, H, I', rw', q⟩
theorem o_dget : OpM (kx X W) W dgetF rDGet2 := by
  intro σ ρ h H d x ds xs Q at_ rx ra p
  unfold dgetF at p
  split at p
  · rename_i n y z
    split at p
    · rename_i kvs q
      split at p
      · rename_i k q3
        obtain ⟨a, ys, rfl, _, h1, h2, h3⟩ := at_.dct q rx.1
        obtain ⟨u, r1, rfl, iu, r2⟩ := ra.1
        obtain ⟨w, rfl, iw⟩ := IsL.one r2
        have lw : mrL [y, z] ≤ h.cs.length := ra.2
        unfold mrL mrL at lw
        obtain ⟨n1, n2⟩ := dGetL_is (k := k) h2
        have ek := keyD_is q3 iu
        cases e : dGetL kvs k with
        | some d' =>
          rw [e] at p
          obtain ⟨v, e1, i1, i2⟩ := n1 d' e
          exact ⟨a, u, w, some v, rfl, rfl, by rw [ek, ← e1]; exact DGet.k h1, p ρ v H at_.refl ⟨i1, Nat.le_trans i2 h3⟩⟩
        | none =>
          rw [e] at p
          exact ⟨a, u, w, none, rfl, rfl, by rw [ek, ← n2 e]; exact DGet.k h1, p ρ w H at_.refl ⟨iw, by show z.mr ≤ _; omega⟩⟩
      · exact p.elim
    · exact p.elim
  · exact p.elim
def rDGet1 : V → List V → Hp → VK → Prop := fun x xs H Q => ∃ a y o, x = .ref a ∧ xs = [y] ∧ DGet H a y o ∧ Q (o.getD .non) H
theorem mt_dget1 (hu : X.A.units + 1 < cLine) : MtR X "dict.get" rDGet1 := by
  intro pins s σ H x xs v us Q I rx rs q
  obtain ⟨a, y, o, rfl, rfl, g, q⟩ := q
  cases rx
  obtain ⟨u, rfl, r1⟩ := Vals.one rs
  exact d_get1 hu I g r1 fun w' s' I' rw' => ⟨_, H, I', rw', q⟩
theorem o_dget1 : OpM (kx X W) W dget1F rDGet1 := by
  intro σ ρ h H d x ds xs Q at_ rx ra p
  unfold dget1F at p
  split at p
  · rename_i n y
    split at p
    · rename_i kvs q
      split at p
      · rename_i k q3
        obtain ⟨a, ys, rfl, _, h1, h2, h3⟩ := at_.dct q rx.1
        obtain ⟨u, rfl, iu⟩ := IsL.one ra.1
        obtain ⟨n1, n2⟩ := dGetL_is (k := k) h2
        have ek := keyD_is q3 iu
        cases e : dGetL kvs k with
        | some d' =>
          rw [e] at p
          obtain ⟨v, e1, i1, i2⟩ := n1 d' e
          exact ⟨a, u, some v, rfl, rfl, by rw [ek, ← e1]; exact DGet.k h1, p ρ v H at_.refl ⟨i1, Nat.le_trans i2 h3⟩⟩
        | none =>
          rw [e] at p
          exact ⟨a, u, none, rfl, rfl, by rw [ek, ← n2 e]; exact DGet.k h1, p ρ .non H at_.refl is_non⟩
      · exact p.elim
    · exact p.elim
  · exact p.elim
/-- {} -/
def dnewE : EM := fun _ h => .ok (.ref h.cs.length) (h.push (.dict []))
theorem de_dnew {pos : Pos} : DE X W (.Dict [] [] pos) dnewE := pe_imp pe_dnewK fun σ H Q ⟨ρ, env, h, rl, p⟩ => fun q hq => by
  refine p (ρ ++ [q]) (.ref q) _ (Ext.push rl.heap rl.wf hq (Nat.zero_le _) fun H' e k => ⟨[], e, by unfold IsK; rfl⟩) ⟨?_, ?_⟩
  · unfold Is
    exact ⟨q, by rw [← rl.len, List.getElem?_append_right (Nat.le_refl _), Nat.sub_self]; rfl, rfl⟩
  · unfold D.mr
    show _ ≤ (h.cs ++ [Cell.dict []]).length
    rw [List.length_append]; exact Nat.le_refl _
/-- len(d) -/
theorem put_dct {K : KX} {ρ : List Addr} {h : PH} {H : Hp} (x : At K ρ h H) {n : Nat} {a : Addr} (ha : ρ[n]? = some a) {ds : List (Key × D)} {xs : List (Key × V)} (i : IsK K ρ H ds xs) (l : mrK ds ≤ h.cs.length) : Ext K ρ H (h.put n (.dict ds)) ρ (upd H a (.dK xs)) :=
  Ext.put x.heap x.wf ha l fun H' e k => ⟨xs, e, IsK.mono k ρ.length (fun i _ a ha => ha) ds xs (by rw [x.heap.len]; exact l) i⟩
/-- constants in a display -/
def dispC : List (Option Expr) → List Expr → Option (List (Str × Int))
  | [], [] => some []
  | some (.Constant (.str k) _ _) :: ks, .Constant (.int v) _ _ :: vs => (match dispC ks vs with
    | some l => some ((k, v) :: l)
    | none => none)
  | _, _ => none
def dkB : Key × V → Key × D
  | (k, .int v) => (k, .int v)
  | (k, _) => (k, .non)
def dispL (l : List (Str × Int)) : List (Key × V) := mergeK [] (l.map fun p => (.inr p.1, .int p.2))
def dictE (l : List (Str × Int)) : EM := fun _ h => .ok (.ref h.cs.length) (h.push (.dict ((dispL l).map dkB)))
def IntV (l : List (Key × V)) : Prop := ∀ p ∈ l, ∃ k v, p = (.inr k, .int v)
theorem intV_put {l : List (Key × V)} {k : Str} {v : Int} (h : IntV l) : IntV (putK l (.inr k) (.int v)) := fun p hp => by
  unfold putK at hp
  split at hp
  · obtain ⟨q, hq, rfl⟩ := List.mem_map.mp hp
    obtain ⟨k', v', rfl⟩ := h q hq
    dsimp only
    split
    · exact ⟨k', v, rfl⟩
    · exact ⟨k', v', rfl⟩
  · rcases List.mem_append.mp hp with hp | hp
    · exact h p hp
    · exact ⟨k, v, List.mem_singleton.mp hp⟩
theorem intV_fold : ∀ (m : List (Str × Int)) {l : List (Key × V)}, IntV l → IntV (mergeK l (m.map fun p => (.inr p.1, .int p.2)))
  | [], _, h => h
  | p :: r, _, h => intV_fold r (intV_put h)
theorem dkB_back {K : KX} {ρ : List Addr} {H : Hp} : ∀ {l : List (Key × V)}, IntV l → IsK K ρ H (l.map dkB) l
  | [], _ => by show IsK K ρ H [] []; unfold IsK; rfl
  | p :: r, h => by
    obtain ⟨k, v, rfl⟩ := h p List.mem_cons_self
    show IsK K ρ H ((Sum.inr k, D.int v) :: r.map dkB) _
    unfold IsK
    exact ⟨.int v, r, rfl, by unfold Is; rfl, dkB_back fun q hq => h q (List.mem_cons_of_mem _ hq)⟩
theorem mrK_back : ∀ {l : List (Key × V)}, IntV l → mrK (l.map dkB) = 0
  | [], _ => rfl
  | p :: r, h => by
    obtain ⟨k, v, rfl⟩ := h p List.mem_cons_self
    rw [List.map_cons]
    have := mrK_back fun q hq => h q (List.mem_cons_of_mem (a := q) _ hq)
    show max 0 (mrK (r.map dkB)) = 0
    rw [this]; rfl
theorem disp_pps {pos : Pos} : ∀ {ks : List (Option Expr)} {vs : List Expr} {l : List (Str × Int)}, dispC ks vs = some l → ∃ trs, PPs X pos ks vs trs ∧ (∀ (σ : L2.St) (H : Hp) (Q : List (V × V) → Hp → Prop), Q (l.map fun p => (V.str p.1, V.int p.2)) H → tPairs trs σ H Q) ∧ ks.all (·.isSome) = true ∧ ks.length = vs.length ∧ ks.length = l.length
  | ks, vs, l, h => by
    unfold dispC at h
    split at h
    · cases h
      exact ⟨[], pps_nil, fun σ H Q q => q, rfl, rfl, rfl⟩
    · split at h
      · rename_i k _ _ ks v _ _ vs _ l' e
        cases h
        obtain ⟨trs, h1, h2, h3, h4, h5⟩ := disp_pps e
        exact ⟨(tC (.str k), tC (.int v)) :: trs, pps_cons pe_str pe_int h1, fun σ H Q q => h2 σ H _ q, by rw [List.all_cons, h3]; rfl, by rw [List.length_cons, List.length_cons, h4], by rw [List.length_cons, List.length_cons, h5]⟩
      · cases h
    · cases h
theorem de_disp {ks : List (Option Expr)} {vs : List Expr} {l : List (Str × Int)} {pos : Pos} (h : dispC ks vs = some l) (h15 : l.length ≤ 15) (h0 : l ≠ []) : DE X W (.Dict ks vs pos) (dictE l) := by
  obtain ⟨trs, h1, h2, h3, h4, h5⟩ := disp_pps (X := X) (pos := pos) h
  refine pe_imp (pe_disp h1 h3 h4 (fun z => h0 ?_) (by rw [h5]; exact h15)) fun σ H Q ⟨ρ, env, h, rl, p⟩ q hq => ?_
  · rw [z] at h5
    exact List.eq_nil_of_length_eq_zero h5.symm
  · refine h2 σ _ _ ⟨upd_same, l.map fun p => (.inr p.1, .int p.2), ?_, by rw [List.length_map]; exact h15, ?_⟩
    · rw [List.map_map]; rfl
    · rw [upd_upd]
      have iv : IntV (dispL l) := intV_fold l fun p hp => by cases hp
      have x := Ext.push (o := .dK (dispL l)) (c := .dict ((dispL l).map dkB)) rl.heap rl.wf hq (by show mrK _ ≤ _; rw [mrK_back iv]; exact Nat.zero_le _) fun H' e k => ⟨dispL l, e, dkB_back iv⟩
      refine p _ (.ref q) _ x ⟨?_, ?_⟩
      · unfold Is
        exact ⟨q, by rw [← rl.heap.len, List.getElem?_append_right (Nat.le_refl _), Nat.sub_self]; rfl, rfl⟩
      · show h.cs.length + 1 ≤ (h.cs ++ [_]).length
        rw [List.length_append]; exact Nat.le_refl _
end
end Dy

/-! Statements, targets, loops, comprehensions. -/
namespace Dy
open PySem PySem.Spec PyProof.Rows L2
section
variable {X : Cx} {W : WJ}
/-! ### blocks, small statements -/
def nextS : SM := fun e h => .nxt e h
def brkS : SM := fun e h => .brk e h
def cntS : SM := fun e h => .cnt e h
def seqS (a b : SM) : SM := fun e h => match a e h with
  | .nxt e1 h1 => b e1 h1
  | .ret d h1 => .ret d h1
  | .brk e1 h1 => .brk e1 h1
  | .cnt e1 h1 => .cnt e1 h1
  | .exc c e1 h1 => .exc c e1 h1
  | .stuck => .stuck
theorem dss_nil : DSs X W [] nextS := pss_imp pss_nil fun D σ H ⟨ρ, env, h, rl, p⟩ => p ρ σ H rl.refl rl.eis rl.ewf
theorem tS_mono {K : KX} {m : SM} {σ : L2.St} {H : Hp} {D : Ends} {N : L2.St → Hp → Prop} (t : tS K W m D σ H) (k : ∀ σ H, D.nx σ H → N σ H) : tS K W m { D with nx := N } σ H := by
  obtain ⟨ρ, env, h, rl, p⟩ := t
  refine ⟨ρ, env, h, rl, ?_⟩
  cases e : m env h with
  | nxt e1 h1 => rw [e] at p; exact fun ρ' σ' H' x1 x2 x3 => k _ _ (p ρ' σ' H' x1 x2 x3)
  | ret d h1 => rw [e] at p; exact p
  | brk e1 h1 => rw [e] at p; exact p
  | cnt e1 h1 => rw [e] at p; exact p
  | exc c e1 h1 => rw [e] at p; exact p
  | stuck => rw [e] at p; exact p
theorem t_seq {K : KX} {a b : SM} {σ : L2.St} {H : Hp} {D : Ends} (t : tS K W (seqS a b) D σ H) : tS K W a { D with nx := tS K W b D } σ H := by
  obtain ⟨ρ, env, h, rl, p⟩ := t
  refine ⟨ρ, env, h, rl, ?_⟩
  unfold seqS at p
  cases e : a env h with
  | nxt e1 h1 =>
    rw [e] at p
    exact fun ρ' σ' H' x1 x2 x3 => ⟨ρ', e1, h1, ⟨x2, x1.rel, x1.wf, x3⟩, p.shift x1⟩
  | ret d h1 => rw [e] at p; exact p
  | brk e1 h1 => rw [e] at p; exact p
  | cnt e1 h1 => rw [e] at p; exact p
  | exc c e1 h1 => rw [e] at p; exact p
  | stuck => rw [e] at p; exact p
theorem dss_cons {st : Stmt} {rest : List Stmt} {a b : SM} (h1 : DS X W st a) (h2 : DSs X W rest b) : DSs X W (st :: rest) (seqS a b) := pss_imp (pss_cons h1 h2) fun D σ H t => t_seq t
theorem ds_pass {pos : Pos} : DS X W (.Pass pos) nextS := ps_imp ps_pass fun D σ H ⟨ρ, env, h, rl, p⟩ => p ρ σ H rl.refl rl.eis rl.ewf
theorem ds_brk {pos : Pos} : DS X W (.Break pos) brkS := ps_imp ps_break fun D σ H ⟨ρ, env, h, rl, p⟩ => p ρ σ H rl.refl rl.eis rl.ewf
theorem ds_cnt {pos : Pos} : DS X W (.Continue pos) cntS := ps_imp ps_continue fun D σ H ⟨ρ, env, h, rl, p⟩ => p ρ σ H rl.refl rl.eis rl.ewf
/-- not a comprehension -/
def notComp : Expr → Bool
  | .ListComp _ _ _ _ => false
  | .SetComp _ _ _ _ => false
  | .DictComp _ _ _ _ _ => false
  | _ => true
theorem swaps_no {e : Expr} (h : notComp e = true) (t : Option Expr) (l : Nat) (env : PySem.Env) : swapsWith e t l env = pure false := by
  cases e <;> first | rfl | cases h
def exprS (m : EM) : SM := fun e h => (m e h).bindS e fun _ h1 => .nxt e h1
theorem ds_expr {e : Expr} {m : EM} {pos : Pos} (he : DE X W e m) (hn : notComp e = true) : DS X W (.Expr e pos) (exprS m) := ps_imp (ps_expr he (swaps_no hn _ _ _)) fun D σ H ⟨ρ, env, h, rl, p⟩ => by
  refine tG_mono (PostS.bind (R := RD (kx X W)) rl p) fun b H1 ⟨ρ1, h1, a1, x1, ra1, p1⟩ => ?_
  have r1 := rl.ext x1
  exact p1 ρ1 σ H1 r1.refl r1.eis r1.ewf
theorem ds_doc {x : Str} {j : Nat} {pos pos' : Pos} : DS X W (.Expr (.Constant (.str x) j pos) pos') nextS := ps_imp ps_doc fun D σ H ⟨ρ, env, h, rl, p⟩ => p ρ σ H rl.refl rl.eis rl.ewf
def retS (m : EM) : SM := fun e h => (m e h).bindS e fun d h1 => .ret d h1
theorem ds_ret {e : Expr} {m : EM} {pos : Pos} (he : DE X W e m) : DS X W (.Return (some e) pos) (retS m) := ps_imp (ps_ret he) fun D σ H ⟨ρ, env, h, rl, p⟩ => by
  refine tG_mono (PostS.bind (R := RD (kx X W)) rl p) fun b H1 ⟨ρ1, h1, a1, x1, ra1, p1⟩ => ?_
  exact p1 ρ1 b H1 x1.at.refl ra1
def retNS : SM := fun _ h => .ret .non h
theorem ds_retN {pos : Pos} : DS X W (.Return none pos) retNS := ps_imp ps_retN fun D σ H ⟨ρ, env, h, rl, p⟩ => p ρ .non H rl.refl is_non
def ifS (t : TM) (a b : SM) : SM := fun e h => (t e h).bindS e fun c h1 => match c with
  | true => a e h1
  | false => b e h1
theorem ds_if {c : Expr} {as bs : List Stmt} {t : TM} {a b : SM} {pos : Pos} (hc : DT X W c t) (ha : DSs X W as a) (hb : DSs X W bs b) : DS X W (.If c as bs pos) (ifS t a b) := ps_imp (ps_if hc ha hb) fun D σ H ⟨ρ, env, h, rl, p⟩ => by
  refine tG_mono (PostS.bind (R := RB) rl p) fun b H1 ⟨ρ1, h1, d, x1, r1, p1⟩ => ?_
  have e : d = b := r1
  subst e
  cases d with
  | true => exact iteT ⟨ρ1, env, h1, rl.ext x1, p1⟩
  | false => exact iteF ⟨ρ1, env, h1, rl.ext x1, p1⟩

/-! ### targets -/
inductive Tgt where
  | one (i : Nat) | many (is : List Nat)
def Tgt.slots : Tgt → List Nat
  | .one i => [i]
  | .many is => is
def setAll : List Nat → List D → Env → Env
  | i :: is, d :: ds, e => setAll is ds (e.set i (some d))
  | _, _, e => e
def tgt (t : Tgt) (d : D) (e : Env) (h : PH) : Option Env := match t with
  | .one i => some (e.set i (some d))
  | .many is => (match itemsS h d with
    | some ds => if ds.length = is.length then some (setAll is ds e) else none
    | none => none)
theorem EnvIs.set {K : KX} {ρ : List Addr} {H : Hp} {env : Env} {σ : L2.St} {i : Nat} {d : D} {v : V} (hc : K.can i) (h : EnvIs K ρ H env σ) (q : Is K ρ H d v) : EnvIs K ρ H (env.set i (some d)) (σ.set i (some v)) := by
  refine ⟨by rw [List.length_set, List.length_set]; exact h.len, fun j c e => ?_, KX.J_set hc h.inv⟩
  by_cases hj : i = j
  · subst hj
    have hl : i < env.length := by
      have := (List.getElem?_eq_some_iff.mp e).1
      rw [List.length_set] at this; exact this
    rw [List.getElem?_set_self hl] at e
    have e' : d = c := by cases e; rfl
    subst e'
    exact ⟨v, by rw [List.getElem?_set_self (by rw [← h.len]; exact hl)], q⟩
  · rw [List.getElem?_set_ne hj] at e ⊢
    exact h.at_ j c e
theorem EnvWf.set {env : Env} {n i : Nat} {d : D} (w : EnvWf env n) (l : d.mr ≤ n) : EnvWf (env.set i (some d)) n := fun j c e => by
  by_cases hj : i = j
  · subst hj
    have hl : i < env.length := by
      have := (List.getElem?_eq_some_iff.mp e).1
      rw [List.length_set] at this; exact this
    rw [List.getElem?_set_self hl] at e
    have e' : d = c := by cases e; rfl
    subst e'; exact l
  · rw [List.getElem?_set_ne hj] at e
    exact w j c e
theorem Rel.set {K : KX} {ρ : List Addr} {env : Env} {h : PH} {σ : L2.St} {H : Hp} {i : Nat} {d : D} {v : V} (hc : K.can i) (r : Rel K ρ env h σ H) (q : RD K ρ H h.cs.length d v) : Rel K ρ (env.set i (some d)) h (σ.set i (some v)) H :=
  ⟨EnvIs.set hc r.eis q.1, r.heap, r.wf, r.ewf.set q.2⟩
/-- a target's reading: how it is stored -/
def TgOk (K : KX) (t : Tgt) (g : TG) : Prop := ∀ (ρ : List Addr) (env e1 : Env) (h : PH) (σ : L2.St) (H : Hp) (d : D) (v : V) (Q : L2.St → Hp → Prop), Rel K ρ env h σ H → RD K ρ H h.cs.length d v → tgt t d env h = some e1 →
  (∀ σ', Rel K ρ e1 h σ' H → (∀ vs : List Nat, (∀ i ∈ t.slots, i ∈ vs) → wipe σ' vs = wipe σ vs) → Q σ' H) → g v σ H Q
theorem wipe_get : ∀ (vs : List Nat) (σ : L2.St) (j : Nat), (wipe σ vs)[j]? = if j ∈ vs then (if j < σ.length then some none else none) else σ[j]?
  | [], σ, j => by simp [wipe]
  | v :: vs, σ, j => by
    unfold wipe
    by_cases hv : v = j
    · subst hv
      rw [if_pos List.mem_cons_self]
      by_cases hl : v < σ.length
      · rw [if_pos hl, List.getElem?_set_self (by rw [wipe_length]; exact hl)]
      · rw [if_neg hl, List.getElem?_eq_none (by rw [List.length_set, wipe_length]; omega)]
    · rw [List.getElem?_set_ne hv, wipe_get vs σ j]
      by_cases hj : j ∈ vs
      · rw [if_pos hj, if_pos (List.mem_cons_of_mem _ hj)]
      · rw [if_neg hj, if_neg (fun z => (List.mem_cons.mp z).elim (fun e => hv e.symm) hj)]
theorem wipe_set {σ : L2.St} {i : Nat} {o : Option V} {vs : List Nat} (h : i ∈ vs) : wipe (σ.set i o) vs = wipe σ vs := by
  apply List.ext_getElem?
  intro j
  rw [wipe_get, wipe_get, List.length_set]
  split
  · rfl
  · rename_i hj
    have hij : i ≠ j := fun e => hj (e ▸ h)
    rw [List.getElem?_set_ne hij]
theorem tg_one {K : KX} (i : Nat) (hc : K.can i) : TgOk K (.one i) (gName i) := fun ρ env e1 h σ H d v Q r q e k => by
  have e' : env.set i (some d) = e1 := by cases e; rfl
  subst e'
  exact k _ (Rel.set hc r q) fun vs hv => wipe_set (hv i (by simp [Tgt.slots]))
/-- names, one after another -/
def gNames : List Nat → TGs
  | [] => gNil
  | i :: is => gCons (gName i) (gNames is)
theorem gNames_ok {K : KX} : ∀ (is : List Nat) (hc : ∀ i ∈ is, K.can i) (ρ : List Addr) (env : Env) (h : PH) (σ : L2.St) (H : Hp) (ds : List D) (vs : List V) (Q : L2.St → Hp → Prop), Rel K ρ env h σ H → RL K ρ H h.cs.length ds vs → ds.length = is.length →
    (∀ σ', Rel K ρ (setAll is ds env) h σ' H → (∀ vs : List Nat, (∀ i ∈ is, i ∈ vs) → wipe σ' vs = wipe σ vs) → Q σ' H) → gNames is vs σ H Q
  | [], hc, ρ, env, h, σ, H, ds, vs, Q, r, q, hl, k => by
    have e : ds = [] := List.eq_nil_of_length_eq_zero hl
    subst e
    exact ⟨q.1.nil, k σ r fun _ _ => rfl⟩
  | i :: is, hc, ρ, env, h, σ, H, [], vs, Q, r, q, hl, k => by simp at hl
  | i :: is, hc, ρ, env, h, σ, H, d :: ds, vs, Q, r, q, hl, k => by
    have i0 := q.1
    unfold IsL at i0
    obtain ⟨x, rest, rfl, h1, h2⟩ := i0
    have l := q.2
    unfold mrL at l
    refine ⟨x, rest, rfl, ?_⟩
    exact gNames_ok is (fun j hj => hc j (List.mem_cons_of_mem _ hj)) ρ _ h _ H ds rest Q (Rel.set (hc i List.mem_cons_self) r ⟨h1, by omega⟩) ⟨h2, by omega⟩ (by simpa using hl) fun σ' r' w => k σ' r' fun vs hv => (w vs fun j hj => hv j (List.mem_cons_of_mem _ hj)).trans (wipe_set (hv i List.mem_cons_self))
def gMany (K : KX) (n : Nat) (t : TGs) : TG := fun v σ H Q => gTup K n t v σ H Q ∨ gLst K n t v σ H Q
theorem tg_many {K : KX} (is : List Nat) (hc : ∀ i ∈ is, K.can i) : TgOk K (.many is) (gMany K is.length (gNames is)) := fun ρ env e1 h σ H d v Q r q e k => by
  have e' : (match itemsS h d with
    | some ds => if ds.length = is.length then some (setAll is ds env) else none
    | none => none) = some e1 := e
  split at e'
  · rename_i ds q2
    split at e'
    · rename_i hl
      have e2 : setAll is ds env = e1 := by cases e'; rfl
      subst e2
      obtain ⟨a, xs, rfl, s, i, l⟩ := itemsS_is ⟨r.heap, r.wf⟩ q2 q
      rcases s with s | s
      · exact .inr ⟨a, xs, rfl, s, by rw [i.length]; exact hl, gNames_ok is hc ρ env h σ H ds xs Q r ⟨i, l⟩ hl k⟩
      · exact .inl ⟨a, xs, rfl, s, by rw [i.length]; exact hl, gNames_ok is hc ρ env h σ H ds xs Q r ⟨i, l⟩ hl k⟩
    · cases e'
  · cases e'
theorem pg_or {e : Expr} {t t' : TG} (h : PG X e t) (h' : PG X e t') : PG X e (fun v σ H Q => t v σ H Q ∨ t' v σ H Q) := ⟨fun pins s σ H v u Q I r q => q.elim (h.run pins s σ H v u Q I r) (h'.run pins s σ H v u Q I r)⟩
def isStarT : Expr → Bool
  | .Starred _ _ => true
  | _ => false
/-- the targets are names -/
theorem assignEach_len : ∀ (es : List Expr) (env : PySem.Env), (∀ e ∈ es, ∃ x p, e = Expr.Name x p) → (assignEach es env).length = es.length ∧ (assignEach es env).findIdx? (·.1) = none
  | [], _, _ => ⟨rfl, rfl⟩
  | e :: es, env, h => by
    obtain ⟨x, p, rfl⟩ := h e List.mem_cons_self
    obtain ⟨h1, h2⟩ := assignEach_len es env fun e he => h e (List.mem_cons_of_mem _ he)
    have z : assignEach (Expr.Name x p :: es) env = (false, assign (Expr.Name x p) env) :: assignEach es env := rfl
    rw [z]
    refine ⟨by rw [List.length_cons, List.length_cons, h1], ?_⟩
    rw [List.findIdx?_cons, h2]; rfl
def asgS (m : EM) (t : Tgt) : SM := fun e h => (m e h).bindS e fun d h1 => match tgt t d e h1 with
  | some e1 => .nxt e1 h1
  | none => .stuck
theorem t_asg {K : KX} {m : EM} {t : Tgt} {g : TG} (hg : TgOk K t g) {D : Ends} {σ : L2.St} {H : Hp} (q : tS K W (asgS m t) D σ H) : tAsg (tE K W m) g D σ H := by
  obtain ⟨ρ, env, h, rl, p⟩ := q
  refine tG_mono (PostS.bind (R := RD K) rl p) fun b H1 ⟨ρ1, h1, a1, x1, ra1, p1⟩ => ?_
  have rl1 := rl.ext x1
  cases e : tgt t a1 env h1 with
  | none => rw [e] at p1; exact p1.elim
  | some e1 =>
    rw [e] at p1
    exact hg ρ1 env e1 h1 σ H1 a1 b D.nx rl1 ra1 e fun σ' r' _ => p1 ρ1 σ' H1 r'.refl r'.eis r'.ewf
theorem ds_set {i : Nat} {x : Str} {e : Expr} {m : EM} {pos pos' : Pos} (hN : X.N.Nodup) (hi : X.N[i]? = some x) (hx : Loc X.env.scope x) (he : DE X W e m) (hn : swapsWith e (some (.Name x pos')) pos.line X.env = pure false) (hf : X.fn x = true ∨ X.env.scope.names.lookup x = some .local) (hc : (kx X W).can i) : DS X W (.Assign [.Name x pos'] e pos) (asgS m (.one i)) :=
  ps_imp (ps_set hN hi hx he hn hf) fun D σ H t => t_asg (tg_one i hc) t
theorem ds_asg {tg e : Expr} {m : EM} {t : Tgt} {g : TG} {pos : Pos} (he : DE X W e m) (hg : PG X tg g) (ok : TgOk (kx X W) t g) (hn : notComp e = true) (hw : swappedStores [tg] e X.env = pure none) (h1 : (assignEach [tg] X.env).map (·.2) = [assign tg X.env]) : DS X W (.Assign [tg] e pos) (asgS m t) :=
  ps_imp (ps_asg he hg (swaps_no hn _ _ _) hw h1) fun D σ H q => t_asg ok q
/-- o[i] = e -/
def setDx (o i d : D) (h : PH) : Option PH := match o with
  | .ref n => (match keyT i with
   | some k => (match h.cs[n]? with
    | some c => (match dnOf c with
      | some kvs => if kvs.length < 16777216 then some (h.put n (.dN (nPutL kvs k d))) else none
      | none => none)
    | none => none)
   | none => (match h.cs[n]? with
    | some (.dict kvs) => (match keyD i with
      | some k => if kvs.length < 16777216 then some (h.put n (.dict (dPutL kvs k d))) else none
      | none => none)
    | _ => none))
  | _ => none
def setIx (o i d : D) (h : PH) : Option PH := match refLst h o, i with
  | some (n, ds), .int k => (match ixN ds.length k with
    | some j => some (h.put n (.lst (ds.set j d)))
    | none => none)
  | some _, _ => none
  | none, i => setDx o i d h
def rSetDct : TSet := fun o i v H Q => ∃ a H', o = .ref a ∧ DPut H a i v H' ∧ Q H'
theorem set_dict {X : Cx} (hu : X.A.units + 1 < cLine) : PSet X rSetDct := by
  intro pins s σ H o i v ov iv u Q I ro ri rv h
  obtain ⟨a, H', rfl, g, q⟩ := h
  obtain rfl : ov = Value.ref a := ro
  exact d_setItem hu I g ri rv fun s4 I4 => ⟨H', I4, q⟩
def rSetN (K : KX) : TSet := fun o i v H Q => ∃ a b k xs, o = .ref a ∧ i = .ref b ∧ DNat K.pw.1 K.pw.2 K.K H a xs ∧ KeyIs K.K H k (.ref b) ∧ k.depth ≤ 8 ∧ xs.length < sizeLine ∧ Q (upd H a (DNo K.pw.1 K.pw.2 a (putN xs k b v)))
theorem set_n {X : Cx} {hx : Option (Nat × Addr)} (hu : X.A.units + 9 < cLine) : PSet X (rSetN ⟨X.K, hx, (X.prog, X.w)⟩) := by
  intro pins s σ H o i v ov iv u Q I ro ri rv h
  obtain ⟨a, b, k, xs, rfl, rfl, dn, hk, h8, hl, q⟩ := h
  obtain rfl : ov = Value.ref a := ro
  obtain rfl : iv = Value.ref b := ri
  exact n_setItem hu I dn hk h8 hl rv fun s4 I4 => ⟨_, I4, q⟩
def rSetA (K : KX) : TSet := fun o i v H Q => rSetL o i v H Q ∨ rSetDct o i v H Q ∨ rSetN K o i v H Q
theorem set_any {X : Cx} {hx : Option (Nat × Addr)} (hu : X.A.units + 9 < cLine) : PSet X (rSetA ⟨X.K, hx, (X.prog, X.w)⟩) := fun pins s σ H o i v ov iv u Q I ro ri rv h => h.elim (fun h => set_list pins s σ H o i v ov iv u Q I ro ri rv h) fun h => h.elim (fun h => set_dict (by omega) pins s σ H o i v ov iv u Q I ro ri rv h) fun h => set_n hu pins s σ H o i v ov iv u Q I ro ri rv h
theorem put_dn {K : KX} {ρ : List Addr} {h : PH} {H : Hp} (x : At K ρ h H) {n : Nat} {a : Addr} (ha : ρ[n]? = some a) {ds : List (NestedKey × D)} {xs : List NE} (i : IsN K ρ H ds xs) (nk : NKeys K.K H xs) (l : mrN ds ≤ h.cs.length) : Ext K ρ H (h.put n (.dN ds)) ρ (upd H a (DNo K.pw.1 K.pw.2 a xs)) :=
  Ext.put x.heap x.wf ha l fun H' e k => ⟨xs, e, nk.keep k, IsN.mono k ρ.length (fun i _ a ha => ha) ds xs (by rw [x.heap.len]; exact l) i⟩
def sixS (m o i : EM) : SM := fun e h => (m e h).bindS e fun d h1 => (o e h1).bindS e fun x h2 => (i e h2).bindS e fun k h3 => match setIx x k d h3 with
  | some h4 => .nxt e h4
  | none => .stuck
theorem setIx_is {K : KX} {ρ : List Addr} {h h' : PH} {H : Hp} {o i d : D} {x y v : V} {Q : Hp → Prop} (at_ : At K ρ h H) (rx : RD K ρ H h.cs.length o x) (ry : RD K ρ H h.cs.length i y) (rv : RD K ρ H h.cs.length d v) (e : setIx o i d h = some h')
    (k : ∀ H', Ext K ρ H h' ρ H' → Q H') : rSetA K x y v H Q := by
  unfold setIx at e
  split at e
  · rename_i n ds j q
    split at e
    · rename_i jj q2
      cases e
      obtain ⟨_, _, a, xs, rfl, ha, h1, i1, l1⟩ := refLst_is at_ q rx
      refine .inl ⟨a, xs, j, jj, rfl, ry.1.int, h1, by rw [i1.length]; exact q2, k _ (put_lst at_ ha (i1.set rv.1 jj) ?_)⟩
      exact Nat.le_trans mrL_set (Nat.max_le.mpr ⟨l1, rv.2⟩)
    · cases e
  · cases e
  · unfold setDx at e
    split at e
    · rename_i n
      split at e
      · rename_i kk hk
        split at e
        · rename_i c q
          split at e
          · rename_i kvs q2
            split at e
            · rename_i hl
              cases e
              obtain ⟨a, xs, rfl, ha, dn, isn, l⟩ := at_.dn q q2 rx.1
              obtain ⟨b, rfl, k1, k2⟩ := keyT_is hk ry.1
              exact .inr (.inr ⟨a, b, kk, xs, rfl, rfl, dn, k1, k2, by rw [sizeLine_eq, isN_len isn]; exact hl, k _ (put_dn at_ ha (isN_put rv.1 isn) (NKeys.put dn.2 k1 k2) (Nat.le_trans mrN_put (Nat.max_le.mpr ⟨l, rv.2⟩)))⟩)
            · cases e
          · cases e
        · cases e
      split at e
      · rename_i kvs q2
        split at e
        · rename_i k q3
          split at e
          · rename_i hl
            cases e
            obtain ⟨a, xs, rfl, ha, h1, h2, h3⟩ := at_.dct q2 rx.1
            refine .inr <| .inl ⟨a, _, rfl, by rw [keyD_is q3 ry.1]; exact DPut.k h1 (by rw [sizeLine_eq, isK_len h2]; exact hl), k _ (put_dct at_ ha (isK_put rv.1 h2) (Nat.le_trans mrK_put (Nat.max_le.mpr ⟨h3, rv.2⟩)))⟩
          · cases e
        · cases e
      · cases e
    · cases e
end


/-! ### the walked things -/
inductive Src where
  | vals (ds : List D) | cell (n : Nat)
abbrev IM := Env → PH → Res Src
/-- the i-th item: there is none; it is d; not known -/
def Src.item (s : Src) (i : Nat) (h : PH) : Option (Option D) := match s with
  | .vals ds => some ds[i]?
  | .cell n => (match h.cs[n]? with
    | some (.lst ds) => some ds[i]?
    | _ => none)
def Src.fuel (s : Src) (h : PH) : Nat := match s with
  | .vals ds => ds.length + 1
  | .cell n => (match h.cs[n]? with
    | some (.lst ds) => ds.length + 1
    | _ => 0)
/-- an iterator walks it -/
def RS (K : KX) : List Addr → Hp → Nat → Src → It → Prop := fun ρ H n s J => ∀ i ρi hi Hi, Ext K ρ H hi ρi Hi → match s.item i hi with
  | some (some d) => J.go i Hi ∧ ∀ x H', J.yld i Hi x H' → H' = Hi ∧ RD K ρi Hi hi.cs.length d x
  | some none => J.stop i Hi
  | none => True
abbrev DI (X : Cx) (W : WJ) (tg e : Expr) (m : IM) : Prop := PI X tg e (tG (kx X W) W (RS (kx X W)) m)
section
variable {X : Cx} {W : WJ} {tg : Expr}
theorem pi_imp {e : Expr} {t t' : TI} (h : PI X tg e t) (k : ∀ σ H Q, t' σ H Q → t σ H Q) : PI X tg e t' := ⟨fun pins s σ H Q I q => h.run pins s σ H Q I (k σ H Q q)⟩
theorem pi_or {e : Expr} {t t' : TI} (h : PI X tg e t) (h' : PI X tg e t') : PI X tg e (fun σ H Q => t σ H Q ∨ t' σ H Q) := ⟨fun pins s σ H Q I q => q.elim (h.run pins s σ H Q I) (h'.run pins s σ H Q I)⟩
def stuckI : IM := fun _ _ => .stuck
theorem di_stuck {e : Expr} : DI X W tg e stuckI := ⟨fun _ _ _ _ _ _ ⟨_, _, _, _, p⟩ => False.elim p⟩
/-- the signs of a text -/
def signs (x : Str) : List D := x.cps.toList.map fun c => .str ⟨#[c]⟩
def srcF (d : D) (h : PH) : Res Src := match d with
  | .tup ds => .ok (.vals ds) h
  | .frl ds => .ok (.vals ds) h
  | .str x => .ok (.vals (signs x)) h
  | .ref n => (match h.cs[n]? with
    | some (.lst _) => .ok (.cell n) h
    | _ => .stuck)
  | _ => .stuck
def srcE (m : EM) : IM := fun e h => (m e h).bind srcF
theorem IsL.getV {K : KX} {ρ : List Addr} {H : Hp} {ds : List D} {xs : List V} {i : Nat} {d : D} {x : V} (h : IsL K ρ H ds xs) (e : ds[i]? = some d) (e2 : xs[i]? = some x) : Is K ρ H d x := by
  obtain ⟨v, h1, h2⟩ := h.get e
  rw [e2] at h1; cases h1; exact h2
theorem IsL.none {K : KX} {ρ : List Addr} {H : Hp} {ds : List D} {xs : List V} {i : Nat} (h : IsL K ρ H ds xs) (e : ds[i]? = none) : xs.length ≤ i := by
  rw [h.length]; exact List.getElem?_eq_none_iff.mp e
theorem SqT.ext {K : KX} {ρ ρ1 : List Addr} {H H1 : Hp} {h1 : PH} {a : Addr} {xs : List V} (x : Ext K ρ H h1 ρ1 H1) (s : SqT K H a xs) : SqT K H1 a xs := SqT.keep x.kept s
/-- what a value is walked as -/
def WalkV (K : KX) (v : V) (H : Hp) (R : It → Hp → Prop) : Prop := (∃ a, v = .ref a ∧ (∃ xs, SqL K H a xs) ∧ R (Itl K a) H) ∨ (∃ a, v = .ref a ∧ (∃ xs, SqT K H a xs) ∧ R (Itt K a) H) ∨ ∃ x, v = .str x ∧ R (Its x) H
theorem pi_any {l : Expr} {tl : TE} (hl : PE X l tl) : PI X tg l (fun σ H R => tl σ H fun v H1 => WalkV (kx X W) v H1 R) := by
  refine ⟨fun pins s σ H R I h => ?_⟩
  refine thn (hl.run pins s σ H _ I h) fun v s1 ⟨x, H1, I1, r1, q1⟩ => ?_
  have fp : ∀ b ∈ [s1.heap.objs.size], FpOk X pins H1 b := fun b hb => by
    have e : b = s1.heap.objs.size := by simpa using hb
    subst e
    exact I1.fpOk (Nat.le_refl _) (I1.hok.fresh (Nat.le_refl _))
  rcases q1 with ⟨a, e, ⟨xs, hq⟩, q⟩ | ⟨a, e, ⟨xs, hq⟩, q⟩ | ⟨z, e, q⟩
  · subst e
    cases r1
    obtain ⟨its, rv, p, hz⟩ := I1.list hq
    refine wpAny_pyIter_list p.isList ?_
    exact ⟨s1.heap.objs.size, [s1.heap.objs.size], _, _, H1, rfl, I1.kept (t' := s1.toks) fun b o e => Heap.get?_push_of_some _ e, turn_list a _, ⟨_, Heap.get?_push_size _ rfl, rfl, rfl⟩, fp, q⟩
  · subst e
    cases r1
    obtain ⟨its, rv, p, hz⟩ := I1.tuple hq
    refine wpAny_pyIter_tuple (show s1.heap.IsTuple a its.toArray from p) ?_
    exact ⟨s1.heap.objs.size, [s1.heap.objs.size], _, _, H1, rfl, I1.kept (t' := s1.toks) fun b o e => Heap.get?_push_of_some _ e, turn_tuple a _, ⟨_, Heap.get?_push_size _ rfl, rfl, rfl⟩, fp, q⟩
  · subst e
    obtain ⟨t, rfl⟩ := r1
    cases ha : z.cps.all (· < 128)
    · exact wpAny_pyIter_wide ha (pi_one (tk := s1.toks) I1 _ (turn_str _ z t "str_iterator" (.inr rfl)) ⟨_, Heap.get?_push_size _ rfl, rfl, rfl⟩ q)
    · exact wpAny_pyIter_ascii ha (pi_one (tk := s1.toks) I1 _ (turn_str _ z t "str_ascii_iterator" (.inl rfl)) ⟨_, Heap.get?_push_size _ rfl, rfl, rfl⟩ q)
/-- over a tuple, a list, a text -/
theorem di_expr {e : Expr} {m : EM} (he : DE X W e m) : DI X W tg e (srcE m) := pi_imp (pi_any he) fun σ H R ⟨ρ, env, h, rl, p⟩ => by
    refine tG_mono (PostG.bind (R := RD (kx X W)) rl p) fun v H1 ⟨ρ1, h1, d, x1, r1, p1⟩ => ?_
    cases d with
    | tup ds =>
      obtain ⟨a, xs, rfl, s, i⟩ := r1.1.tup
      refine .inr (.inl ⟨a, rfl, ⟨xs, s⟩, p1 ρ1 _ H1 x1.at.refl fun j ρj hj Hj xj => ?_⟩)
      have ij := xj.isL (by rw [x1.at.heap.len]; exact r1.2) i
      show match some ds[j]? with | some (some d) => _ | some none => _ | none => True
      cases e : ds[j]? with
      | some d =>
        obtain ⟨v, e1, e2⟩ := ij.get e
        refine ⟨⟨xs, v, SqT.ext xj s, e1⟩, fun x H' y => ⟨y.1, ij.getV e (y.2 xs (SqT.ext xj s)), ?_⟩⟩
        have l : mrL ds ≤ h1.cs.length := r1.2
        have := mrL_get e; have := xj.le; rw [x1.at.heap.len] at this; omega
      | none => exact ⟨xs, SqT.ext xj s, ij.none e⟩
    | frl ds =>
      obtain ⟨a, xs, rfl, s, i⟩ := r1.1.frl
      refine .inl ⟨a, rfl, ⟨xs, s.sq⟩, p1 ρ1 _ H1 x1.at.refl fun j ρj hj Hj xj => ?_⟩
      have ij := xj.isL (by rw [x1.at.heap.len]; exact r1.2) i
      have sj := (FrzL.keep xj.kept s).sq
      show match some ds[j]? with | some (some d) => _ | some none => _ | none => True
      cases e : ds[j]? with
      | some d =>
        obtain ⟨v, e1, e2⟩ := ij.get e
        refine ⟨⟨xs, v, sj, e1⟩, fun x H' y => ⟨y.1, ij.getV e (y.2 xs sj), ?_⟩⟩
        have l : mrL ds ≤ h1.cs.length := r1.2
        have := mrL_get e; have := xj.le; rw [x1.at.heap.len] at this; omega
      | none => exact ⟨xs, sj, ij.none e⟩
    | str z =>
      refine .inr (.inr ⟨z, r1.1.str, p1 ρ1 _ H1 x1.at.refl fun j ρj hj Hj xj => ?_⟩)
      show match some (signs z)[j]? with | some (some d) => _ | some none => _ | none => True
      unfold signs
      rw [List.getElem?_map]
      cases e : z.cps.toList[j]? with
      | some c =>
        have hj' : j < z.cps.size := by
          have := (List.getElem?_eq_some_iff.mp e).1
          rw [Array.length_toList] at this; exact this
        refine ⟨hj', fun x H' y => ⟨y.1, ?_⟩⟩
        obtain ⟨_, c', e1, e2⟩ := y
        subst e2
        rw [← Array.getElem?_toList, e] at e1
        cases e1
        exact is_str
      | none =>
        have := List.getElem?_eq_none_iff.mp e
        rw [Array.length_toList] at this
        exact this
    | ref n =>
      have p1 : PostG (kx X W) W (RS (kx X W)) σ R ρ1 H1 (match h1.cs[n]? with | some (.lst _) => .ok (.cell n) h1 | _ => .stuck) := p1
      cases e0 : h1.cs[n]? with
      | none => rw [e0] at p1; exact p1.elim
      | some c =>
        rw [e0] at p1
        cases c with
        | lst ds =>
          obtain ⟨a, xs, rfl, ha, hl, i, l⟩ := x1.at.lst e0 r1.1
          refine .inl ⟨a, rfl, ⟨xs, SqL.of hl⟩, p1 ρ1 _ H1 x1.at.refl fun j ρj hj Hj xj => ?_⟩
          show match (match hj.cs[n]? with | some (.lst ds) => some ds[j]? | _ => none) with | some (some d) => _ | some none => _ | none => True
          cases e2 : hj.cs[n]? with
          | none => trivial
          | some c2 =>
            cases c2 with
            | lst es =>
              have haj := xj.at_ n (List.getElem?_eq_some_iff.mp ha).1 a ha
              obtain ⟨a', ys, ea, _, hl2, i2, l2⟩ := xj.at.lst (v := .ref a) e2 (by unfold Is; exact ⟨a, haj, rfl⟩)
              cases ea
              show match some es[j]? with | some (some d) => _ | some none => _ | none => True
              cases e : es[j]? with
              | some d =>
                obtain ⟨v, e1, _⟩ := i2.get e
                refine ⟨⟨ys, v, SqL.of hl2, e1⟩, fun x H' y => ⟨y.1, i2.getV e (y.2 ys (SqL.of hl2)), Nat.le_trans (mrL_get e) l2⟩⟩
              | none => exact ⟨ys, SqL.of hl2, i2.none e⟩
            | inst _ _ => trivial
            | dict _ => trivial
            | dN _ => trivial
        | inst _ _ => exact p1.elim
        | dict _ => exact p1.elim
        | dN _ => exact p1.elim
    | non => exact p1.elim
    | bl _ => exact p1.elim
    | int _ => exact p1.elim
    | ty _ => exact p1.elim
    | glb _ => exact p1.elim
/-! ranges -/
/-- i, i + c, .. (n of them) -/
def rangeD (i c : Int) (n : Nat) : List D := (List.range n).map fun (k : Nat) => .int (i + (k : Int) * c)
def in62 (i : Int) : Bool := Nat.ble i.natAbs 4611686018427387903
theorem in62_is {i : Int} (h : in62 i = true) : -(2 ^ 62) ≤ i ∧ i < 2 ^ 62 := by
  have z : i.natAbs ≤ 4611686018427387903 := Nat.le_of_ble_eq_true h
  omega
theorem rs_range {K : KX} {ρ : List Addr} {H : Hp} {m : Nat} {i c : Int} {n : Nat} {J : It} (hgo : ∀ k H', k < n → J.go k H') (hy : ∀ k H' x H'', J.yld k H' x H'' → H'' = H' ∧ x = .int (i + (k : Nat) * c)) (hs : ∀ k H', n ≤ k → J.stop k H') : RS K ρ H m (.vals (rangeD i c n)) J := fun k ρk hk Hk xk => by
  show match some (rangeD i c n)[k]? with | some (some d) => _ | some none => _ | none => True
  unfold rangeD
  rw [List.getElem?_map]
  cases e : (List.range n)[k]? with
  | some z =>
    have hl := (List.getElem?_eq_some_iff.mp e).1
    rw [List.length_range] at hl
    rw [List.getElem?_range hl] at e
    cases e
    refine ⟨hgo k Hk hl, fun x H' y => ?_⟩
    obtain ⟨y1, y2⟩ := hy k Hk x H' y
    rw [y2]
    exact ⟨y1, is_int⟩
  | none =>
    have := List.getElem?_eq_none_iff.mp e
    rw [List.length_range] at this
    exact hs k Hk this
def rangeF1 (ds : List D) (h : PH) : Res Src := match ds with
  | [.int j] => if in62 j = true then .ok (.vals (rangeD 0 1 j.toNat)) h else .stuck
  | _ => .stuck
def rangeF2 (ds : List D) (h : PH) : Res Src := match ds with
  | [.int i, .int j] => if in62 i = true ∧ in62 j = true then .ok (.vals (rangeD i 1 (j - i).toNat)) h else .stuck
  | _ => .stuck
def rangeF3 (ds : List D) (h : PH) : Res Src := match ds with
  | [.int i, .int j, .int c] => if c = -1 ∧ in62 i = true ∧ in62 j = true then .ok (.vals (rangeD i (-1) (i - j).toNat)) h else .stuck
  | _ => .stuck
def rngE (f : List D → PH → Res Src) (m : AM) : IM := fun e h => (m e h).bind f
theorem IsL.two {K : KX} {ρ : List Addr} {H : Hp} {d e : D} {xs : List V} (h : IsL K ρ H [d, e] xs) : ∃ v u, xs = [v, u] ∧ Is K ρ H d v ∧ Is K ρ H e u := by
  unfold IsL at h
  obtain ⟨x, r, rfl, h1, h2⟩ := h
  obtain ⟨u, rfl, h3⟩ := h2.one
  exact ⟨x, u, rfl, h1, h3⟩
theorem di_range1 {a : Expr} {p pos : Pos} {m : AM} (hg : Gl X "range") (hm : X.mg "range" = none) (ha : DA X W [a] m) (hs : noStars [a] = true) : DI X W tg (.Call (.Name "range" p) [a] [] pos) (rngE rangeF1 m) :=
  pi_imp (pi_range1 hg hm ha (star_no (noStars_head hs).1 [] _)) fun σ H R ⟨ρ, env, h, rl, p⟩ => by
    refine tG_mono (PostG.bind (R := RL (kx X W)) rl p) fun vs H1 ⟨ρ1, h1, d, x1, r1, p1⟩ => ?_
    unfold rangeF1 at p1
    split at p1
    · rename_i j
      split at p1
      · rename_i c
        obtain ⟨v, rfl, iv⟩ := r1.1.one
        obtain ⟨c1, c2⟩ := in62_is c
        exact ⟨j, by rw [iv.int], c1, c2, p1 ρ1 _ H1 x1.at.refl (rs_range (fun k H' hk => hk) (fun k H' x H'' y => ⟨y.1, by rw [y.2, Int.mul_one]⟩) fun k H' hk => hk)⟩
      · exact p1.elim
    · exact p1.elim
theorem di_range2 {a b : Expr} {p pos : Pos} {m : AM} (hg : Gl X "range") (hm : X.mg "range" = none) (ha : DA X W [a, b] m) (hs : noStars [a, b] = true) : DI X W tg (.Call (.Name "range" p) [a, b] [] pos) (rngE rangeF2 m) :=
  pi_imp (pi_range2 hg hm ha (by rw [star_no (noStars_head hs).1 [b] _, star_no (noStars_head (noStars_head hs).2).1 [] _]; rfl) (star_no (noStars_head (noStars_head hs).2).1 [] _)) fun σ H R ⟨ρ, env, h, rl, p⟩ => by
    refine tG_mono (PostG.bind (R := RL (kx X W)) rl p) fun vs H1 ⟨ρ1, h1, d, x1, r1, p1⟩ => ?_
    unfold rangeF2 at p1
    split at p1
    · rename_i i j
      split at p1
      · rename_i c
        obtain ⟨v, u, rfl, iv, iu⟩ := r1.1.two
        obtain ⟨c1, c2⟩ := in62_is c.1
        obtain ⟨c3, c4⟩ := in62_is c.2
        exact ⟨i, j, by rw [iv.int, iu.int], ⟨c1, c2, c3, c4⟩, p1 ρ1 _ H1 x1.at.refl (rs_range (fun k H' hk => hk) (fun k H' x H'' y => ⟨y.1, by rw [y.2, Int.mul_one]⟩) fun k H' hk => hk)⟩
      · exact p1.elim
    · exact p1.elim
theorem di_range3 {a b c : Expr} {p pos : Pos} {m : AM} (hg : Gl X "range") (hm : X.mg "range" = none) (ha : DA X W [a, b, c] m) (hs : noStars [a, b, c] = true) : DI X W tg (.Call (.Name "range" p) [a, b, c] [] pos) (rngE rangeF3 m) :=
  pi_imp (pi_range3 hg hm ha (star_no (noStars_head hs).1 [b, c] _) (noStars_any (noStars_head hs).2 pos _)) fun σ H R ⟨ρ, env, h, rl, p⟩ => by
    refine tG_mono (PostG.bind (R := RL (kx X W)) rl p) fun vs H1 ⟨ρ1, h1, d, x1, r1, p1⟩ => ?_
    unfold rangeF3 at p1
    split at p1
    · rename_i i j k
      split at p1
      · rename_i cc
        obtain ⟨cc0, cc1, cc2⟩ := cc
        subst cc0
        have r0 := r1.1
        unfold IsL at r0
        obtain ⟨v, r, rfl, iv, r0⟩ := r0
        obtain ⟨u, w, rfl, iu, iw⟩ := r0.two
        obtain ⟨c1, c2⟩ := in62_is cc1
        obtain ⟨c3, c4⟩ := in62_is cc2
        exact ⟨i, j, -1, (i - j).toNat, by rw [iv.int, iu.int, iw.int], RgC.neg c1 c2 c3 c4, p1 ρ1 _ H1 x1.at.refl (rs_range (fun k H' hk => hk) (fun k H' x H'' y => ⟨y.1, y.2⟩) fun k H' hk => hk)⟩
      · exact p1.elim
    · exact p1.elim
/-! reversed(x), x a tuple or a known list -/
def revSrc (d : D) (h : PH) : Res Src := match d with
  | .tup ds => .ok (.vals ds.reverse) h
  | .frl ds => .ok (.vals ds.reverse) h
  | _ => .stuck
def revE (m : EM) : IM := fun e h => (m e h).bind revSrc
theorem rev_get {α : Type} (ds : List α) (j : Nat) (h : j < ds.length) : ds.reverse[j]? = ds[ds.length - 1 - j]? := by
  rw [List.getElem?_reverse h]
theorem di_rev {e : Expr} {p pos : Pos} {m : EM} (hg : Gl X "reversed") (hm : X.mg "reversed" = none) (he : DE X W e m) (hs : noStars [e] = true) : DI X W tg (.Call (.Name "reversed" p) [e] [] pos) (revE m) :=
  pi_imp (RT.pi_revA hg hm he (star_no (noStars_head hs).1 [] _)) fun σ H R ⟨ρ, env, h, rl, p⟩ => by
    refine tG_mono (PostG.bind (R := RD (kx X W)) rl p) fun v H1 ⟨ρ1, h1, d, x1, r1, p1⟩ => ?_
    cases d with
    | tup ds =>
      obtain ⟨a, xs, rfl, s, i⟩ := r1.1.tup
      refine ⟨a, xs, rfl, .inr ⟨s, p1 ρ1 _ H1 x1.at.refl fun j ρj hj Hj xj => ?_⟩⟩
      have ij := xj.isL (by rw [x1.at.heap.len]; exact r1.2) i
      have sj := SqT.ext xj s
      show match some ds.reverse[j]? with | some (some d) => _ | some none => _ | none => True
      by_cases hlt : j < ds.length
      · rw [rev_get ds j hlt]
        cases e : ds[ds.length - 1 - j]? with
        | some d =>
          obtain ⟨v, e1, e2⟩ := ij.get e
          rw [← i.length] at e1
          refine ⟨⟨by rw [i.length]; exact hlt, xs, v, sj, e1⟩, fun x H' y => ⟨y.1, ?_, ?_⟩⟩
          · have := y.2 xs sj
            rw [e1] at this; cases this; exact e2
          · have l : mrL ds ≤ h1.cs.length := r1.2
            have := mrL_get e; have := xj.le; rw [x1.at.heap.len] at this; omega
        | none => have := List.getElem?_eq_none_iff.mp e; omega
      · have e : ds.reverse[j]? = none := List.getElem?_eq_none (by rw [List.length_reverse]; omega)
        rw [e]
        show xs.length ≤ j
        rw [i.length]; omega
    | frl ds =>
      obtain ⟨a, xs, rfl, s, i⟩ := r1.1.frl
      refine ⟨a, xs, rfl, .inl ⟨s.sq, p1 ρ1 _ H1 x1.at.refl fun j ρj hj Hj xj => ?_⟩⟩
      have ij := xj.isL (by rw [x1.at.heap.len]; exact r1.2) i
      have sj := (FrzL.keep xj.kept s).sq
      show match some ds.reverse[j]? with | some (some d) => _ | some none => _ | none => True
      by_cases hlt : j < ds.length
      · rw [rev_get ds j hlt]
        cases e : ds[ds.length - 1 - j]? with
        | some d =>
          obtain ⟨v, e1, e2⟩ := ij.get e
          rw [← i.length] at e1
          refine ⟨⟨by rw [i.length]; exact hlt, xs, v, sj, e1⟩, fun x H' y => ⟨y.1, ?_, ?_⟩⟩
          · have := y.2 xs sj
            rw [e1] at this; cases this; exact e2
          · have l : mrL ds ≤ h1.cs.length := r1.2
            have := mrL_get e; have := xj.le; rw [x1.at.heap.len] at this; omega
        | none => have := List.getElem?_eq_none_iff.mp e; omega
      · have e : ds.reverse[j]? = none := List.getElem?_eq_none (by rw [List.length_reverse]; omega)
        rw [e]
        show xs.length ≤ j
        rw [i.length]; omega
    | _ => exact p1.elim

/-! ### for -/
def mrE : Env → Nat
  | [] => 0
  | some d :: r => max d.mr (mrE r)
  | none :: r => mrE r
theorem mrE_wf : ∀ {env : Env} {n : Nat}, mrE env ≤ n → EnvWf env n
  | [], n, _ => fun i d e => by simp at e
  | o :: r, n, h => fun i d e => by
    cases i with
    | zero =>
      have e' : o = some d := by simpa using e
      subst e'
      unfold mrE at h; omega
    | succ i =>
      have e' : r[i]? = some (some d) := by simpa using e
      have h' : mrE r ≤ n := by cases o <;> unfold mrE at h <;> omega
      exact mrE_wf h' i d e'
theorem mrE_of : ∀ {env : Env} {n : Nat}, EnvWf env n → mrE env ≤ n
  | [], n, _ => Nat.zero_le _
  | o :: r, n, h => by
    have h2 := mrE_of (env := r) (n := n) fun i d e => h (i + 1) d (by simpa using e)
    cases o with
    | none => exact h2
    | some d =>
      have := h 0 d (by simp)
      unfold mrE; omega
/-- the state behind a turn: what nothing names any more is dropped -/
def PH.gc (h : PH) (l : Nat) (env : Env) : PH := h.cut (max l (max h.lim (mrE env)))
def forL (t : Tgt) (body : SM) (s : Src) (l : Nat) : Nat → Nat → Env → PH → Out
  | 0, _, _, _ => .stuck
  | f + 1, i, e, h => match s.item i h with
    | none => .stuck
    | some none => .nxt e h
    | some (some d) => (match tgt t d e h with
      | none => .stuck
      | some e1 => (match body e1 h with
        | .nxt e2 h2 => forL t body s l f (i + 1) e2 (h2.gc l e2)
        | .cnt e2 h2 => forL t body s l f (i + 1) e2 (h2.gc l e2)
        | .brk e2 h2 => .nxt e2 h2
        | .ret d h2 => .ret d h2
        | .exc c e2 h2 => .exc c e2 h2
        | .stuck => .stuck))
def forS (m : IM) (t : Tgt) (body : SM) : SM := fun e h => (m e h).bindS e fun s h1 => forL t body s h1.cs.length (s.fuel h1) 0 e h1
theorem EnvIs.cut {K : KX} {ρ : List Addr} {H : Hp} {env : Env} {σ : L2.St} {n : Nat} (w : EnvWf env n) (h : EnvIs K ρ H env σ) : EnvIs K (ρ.take n) H env σ :=
  ⟨h.len, (fun i d e => let ⟨v, e1, e2⟩ := h.at_ i d e; ⟨v, e1, Is.cut (w i d e) e2⟩), h.inv⟩
/-- behind a turn: the state that is cut still goes beyond the loop's start -/
theorem gc_ok {K : KX} {ρ ρ2 : List Addr} {H H2 : Hp} {h2 : PH} {env : Env} {σ : L2.St} (x : Ext K ρ H h2 ρ2 H2) (e : EnvIs K ρ2 H2 env σ) (w : EnvWf env h2.cs.length) :
    ∃ ρ3, Ext K ρ H (h2.gc ρ.length env) ρ3 H2 ∧ EnvIs K ρ3 H2 env σ ∧ EnvWf env (h2.gc ρ.length env).cs.length := by
  have hm : mrE env ≤ max ρ.length (max h2.lim (mrE env)) := by omega
  refine ⟨ρ2.take (max ρ.length (max h2.lim (mrE env))), x.cut (by omega) (by omega), e.cut (mrE_wf hm), ?_⟩
  have h1 := mrE_of w
  have h3 := x.wf.le
  have h4 := x.le
  refine mrE_wf ?_
  show mrE env ≤ (h2.cs.take _).length
  rw [List.length_take]; omega
theorem ds_for {iter tg : Expr} {body : List Stmt} {m : IM} {t : Tgt} {g : TG} {b : SM} {pos : Pos} (hp : PassesOwn (model X.prog X.w) X.A X.env X.xe) (hc : X.calm = true) (hi : DI X W tg iter m) (hg : PG X tg g) (ok : TgOk (kx X W) t g) (hb : DSs X W body b)
    (hs : ∀ x, foldedSetIterable iter X.env x = pure x) : DS X W (.For tg iter body [] pos) (forS m t b) := ps_imp (ps_for hp hc hi hg hb hs) fun D σ H ⟨ρ, env, h, rl, p⟩ => by
  refine tG_mono (PostS.bind (R := RS (kx X W)) rl p) fun J H1 ⟨ρ1, h1, s, x1, rs, p1⟩ => ?_
  have rl1 := rl.ext x1
  rw [← rl1.len] at p1
  refine ⟨fun i n σ' H' => ∃ ρi e hi, Ext (kx X W) ρ1 H1 hi ρi H' ∧ EnvIs (kx X W) ρi H' e σ' ∧ EnvWf e hi.cs.length ∧ PostS (kx X W) W D ρ1 H1 (forL t b s ρ1.length n i e hi), ⟨_, ρ1, env, h1, x1.at.refl, rl1.eis, rl1.ewf, p1⟩, ?_⟩
  rintro i n σ' H' ⟨ρi, e, hi, xi, ei, wi, pi⟩
  cases n with
  | zero => exact pi.elim
  | succ n =>
    have q := rs i ρi hi H' xi
    unfold forL at pi
    split at pi
    · exact pi.elim
    · rename_i e0
      rw [e0] at q
      exact .inl ⟨q, pi ρi σ' H' xi ei wi⟩
    · rename_i d e0
      rw [e0] at q
      obtain ⟨go, yld⟩ := q
      refine .inr ⟨go, fun σ2 H2 => ∃ m', m' < n + 1 ∧ ∃ ρi e hi, Ext (kx X W) ρ1 H1 hi ρi H2 ∧ EnvIs (kx X W) ρi H2 e σ2 ∧ EnvWf e hi.cs.length ∧ PostS (kx X W) W D ρ1 H1 (forL t b s ρ1.length m' (i + 1) e hi), fun σ2 H2 w => w, fun x H'' y => ?_⟩
      obtain ⟨e1, rd⟩ := yld x H'' y
      subst e1
      split at pi
      · exact pi.elim
      · rename_i en1 e2
        have rli : Rel (kx X W) ρi e hi σ' H'' := ⟨ei, xi.rel, xi.wf, wi⟩
        refine ok ρi e en1 hi σ' H'' d x _ rli rd e2 fun σ3 r3 _ => ?_
        refine ⟨ρi, en1, hi, r3, ?_⟩
        split at pi
        · rename_i e4 h4 eb
          rw [eb]
          intro ρ4 σ4 H4 x4 ei4 w4
          obtain ⟨ρ5, x5, ei5, w5⟩ := gc_ok (xi.trans x4) ei4 w4
          exact ⟨n, Nat.lt_succ_self n, ρ5, e4, _, x5, ei5, w5, pi⟩
        · rename_i e4 h4 eb
          rw [eb]
          intro ρ4 σ4 H4 x4 ei4 w4
          obtain ⟨ρ5, x5, ei5, w5⟩ := gc_ok (xi.trans x4) ei4 w4
          exact ⟨n, Nat.lt_succ_self n, ρ5, e4, _, x5, ei5, w5, pi⟩
        · rename_i e4 h4 eb
          rw [eb]
          exact fun ρ4 σ4 H4 x4 ei4 w4 => pi ρ4 σ4 H4 (xi.trans x4) ei4 w4
        · rename_i d4 h4 eb
          rw [eb]
          exact fun ρ4 v4 H4 x4 r4 => pi ρ4 v4 H4 (xi.trans x4) r4
        · rename_i c4 e4 h4 eb
          rw [eb]
          exact fun ρ4 σ4 H4 x4 ei4 w4 => pi ρ4 σ4 H4 (xi.trans x4) ei4 w4
        · exact pi.elim
/-! ### while -/
def whileL (t : TM) (body : SM) (l : Nat) : Nat → Env → PH → Out
  | 0, _, _ => .stuck
  | f + 1, e, h => (t e h).bindS e fun c h1 => match c with
    | false => .nxt e h1
    | true => (match body e h1 with
        | .nxt e2 h2 => whileL t body l f e2 (h2.gc l e2)
        | .cnt e2 h2 => whileL t body l f e2 (h2.gc l e2)
        | .brk e2 h2 => .nxt e2 h2
        | .ret d h2 => .ret d h2
        | .exc c e2 h2 => .exc c e2 h2
        | .stuck => .stuck)
def whileS (f : Nat) (t : TM) (body : SM) : SM := fun e h => whileL t body h.cs.length f e h
theorem PostS.bind2 {K : KX} {α β : Type} {R : List Addr → Hp → Nat → α → β → Prop} {σ : L2.St} {ρ ρi : List Addr} {H H' : Hp} {hi : PH} {env : Env} {m : Env → PH → Res α} {k : α → PH → Out} {D : Ends} (x : Ext K ρ H hi ρi H') (r : Rel K ρi env hi σ H') (p : PostS K W D ρ H ((m env hi).bindS env k)) :
    tG K W R m σ H' fun b H1 => ∃ ρ1 h1 a, Ext K ρi H' h1 ρ1 H1 ∧ R ρ1 H1 h1.cs.length a b ∧ PostS K W D ρ H (k a h1) := by
  refine ⟨ρi, env, hi, r, ?_⟩
  cases e : m env hi with
  | ok a h1 =>
    rw [e] at p
    exact fun ρ' b H' x rb => ⟨ρ', h1, a, x, rb, p⟩
  | exc c h1 =>
    rw [e] at p
    exact fun ρ' H2 x2 => p ρ' σ H2 (x.trans x2) (x2.envIs (by rw [r.len]; exact r.ewf) r.eis) (r.ewf.mono (by have := x2.le; rw [r.len] at this; exact this))
  | stuck =>
    rw [e] at p
    exact p
theorem ds_while {f : Nat} {c : Expr} {body : List Stmt} {t : TM} {b : SM} {pos : Pos} (hp : PassesOwn (model X.prog X.w) X.A X.env X.xe) (hc : DT X W c t) (hb : DSs X W body b) : DS X W (.While c body [] pos) (whileS f t b) := ps_imp (ps_while hp hc hb) fun D σ H ⟨ρ, env, h, rl, p⟩ => by
  unfold whileS at p
  rw [← rl.len] at p
  refine ⟨fun n σ' H' => ∃ ρi e hi, Ext (kx X W) ρ H hi ρi H' ∧ EnvIs (kx X W) ρi H' e σ' ∧ EnvWf e hi.cs.length ∧ PostS (kx X W) W D ρ H (whileL t b ρ.length n e hi), ⟨_, ρ, env, h, rl.refl, rl.eis, rl.ewf, p⟩, ?_⟩
  rintro n σ' H' ⟨ρi, e, hi, xi, ei, wi, pi⟩
  cases n with
  | zero => exact pi.elim
  | succ n =>
    have rli : Rel (kx X W) ρi e hi σ' H' := ⟨ei, xi.rel, xi.wf, wi⟩
    unfold whileL at pi
    refine tG_mono (PostS.bind2 (R := RB) xi rli pi) fun k H1 ⟨ρ1, h1, d, x1, r1, p1⟩ => ?_
    have e0 : d = k := r1
    subst e0
    have rl1 := rli.ext x1
    have xi1 := xi.trans x1
    cases d with
    | false => exact iteF (p1 ρ1 σ' H1 xi1 rl1.eis rl1.ewf)
    | true =>
      refine iteT ⟨fun σ2 H2 => ∃ m', m' < n + 1 ∧ ∃ ρi e hi, Ext (kx X W) ρ H hi ρi H2 ∧ EnvIs (kx X W) ρi H2 e σ2 ∧ EnvWf e hi.cs.length ∧ PostS (kx X W) W D ρ H (whileL t b ρ.length m' e hi), fun σ2 H2 w => w, ?_⟩
      refine ⟨ρ1, e, h1, rl1, ?_⟩
      dsimp only at p1
      split at p1
      · rename_i e4 h4 eb
        rw [eb]
        intro ρ4 σ4 H4 x4 ei4 w4
        obtain ⟨ρ5, x5, ei5, w5⟩ := gc_ok (xi1.trans x4) ei4 w4
        exact ⟨n, Nat.lt_succ_self n, ρ5, e4, _, x5, ei5, w5, p1⟩
      · rename_i e4 h4 eb
        rw [eb]
        intro ρ4 σ4 H4 x4 ei4 w4
        obtain ⟨ρ5, x5, ei5, w5⟩ := gc_ok (xi1.trans x4) ei4 w4
        exact ⟨n, Nat.lt_succ_self n, ρ5, e4, _, x5, ei5, w5, p1⟩
      · rename_i e4 h4 eb
        rw [eb]
        exact fun ρ4 σ4 H4 x4 ei4 w4 => p1 ρ4 σ4 H4 (xi1.trans x4) ei4 w4
      · rename_i d4 h4 eb
        rw [eb]
        exact fun ρ4 v4 H4 x4 r4 => p1 ρ4 v4 H4 (xi1.trans x4) r4
      · rename_i c4 e4 h4 eb
        rw [eb]
        exact fun ρ4 σ4 H4 x4 ei4 w4 => p1 ρ4 σ4 H4 (xi1.trans x4) ei4 w4
      · exact p1.elim
end
end Dy

/-! Comprehensions whose elements may raise. -/
namespace L2
open PySem PySem.Spec PyProof.Rows
/-- the context of a block, its elements wishing E of what they raise -/
abbrev Cx.blkX (X : Cx) (u : Shared) (J : Hp) (scope : Scope) (ce : PySem.Env) (fp : List Addr) (E : Value → Shared → Prop) : Cx := { X.blk u J scope ce fp with xe := E }
section
variable {X : Cx} {pins : List (Addr × Obj)} {σ : St} {H : Hp} {s : Shared}
theorem Inv.toX {u : Shared} {J : Hp} {scope : Scope} {ce : PySem.Env} {fp : List Addr} {E : Value → Shared → Prop} (I : Inv (X.blk u J scope ce fp) pins σ H s) : Inv (X.blkX u J scope ce fp E) pins σ H s := by
  obtain ⟨i1, i2, i3, i4, i5, i6, i7, i8, i9, i10, i11⟩ := I
  refine ⟨?_, i2, i3, i4, i5, i6, i7, i8, i9, i10, i11⟩
  cases i1
  constructor <;> assumption
/-- noted by another frame: noted again -/
theorem look_offZ {M : Model} {A : Around} {E : Value → Shared → Prop} {base : Heap} {env : PySem.Env} {outer : List PySem.Env} {e L L' : Addr} {Z : Obj → Prop} {Q : Unit → Shared → Prop} (hZ : HandSPX.Steady Z) (hfr : A.frames = some (env :: outer)) (hf : env.frame = some L) (hne : L' ≠ L)
    (hh : HandSPX.HeldZ base (env :: outer) e Z L' s.heap) (hQ : ∀ h', HandSPX.HeldZ base (env :: outer) e Z L h' → s.heap.UpToSlots h' → Q () { s with heap := h' }) : wpAny M A (noteFrame (.ref e) env) Q E s := by
  obtain ⟨b1, b2, b3, oe, vs, T, oT, ts, c1, c2, c3, c4, c5, c6, c7, c8, c9⟩ := hh
  unfold noteFrame
  simp only [hf]
  refine wpAny_bind (wpAny_field c1 c3 c4 ?_)
  rw [if_pos (by simp : (Value.ref T != Value.none) = true)]
  refine wpAny_bind (wpAny_field c7 c8 c9 ?_)
  rw [if_neg (fun z => hne (by have q := eq_of_beq z; simp only [rawInt, Value.int.injEq] at q; exact Int.ofNat.inj q.1))]
  refine wpAny_bind (wpAny_setField c7 c8 (Array.getElem?_eq_some_iff.mp c9).1 ?_)
  have oth : ∀ b, b ≠ T → (s.heap.update T (Obj.mapFields (·.setIfInBounds 3 Value.none))).get? b = s.heap.get? b := fun b q => Heap.get?_update_other _ _ q.symm
  have nrec : ∀ b o, s.heap.get? b = some o → (∀ vs, o.data ≠ .fields vs) → b ≠ T := fun b o g nf q => by
    subst q
    rw [c7] at g
    cases g
    exact nf ts c8
  refine HandSPX.wpAny_entryZ hZ hfr (b3.of_keeps fun b o g nf => ⟨o, (oth b (nrec b o g nf)).trans g, rfl⟩) hf ((oth e c6.symm).trans c1)
    (fun b o g => (oth b fun q => by subst q; rw [c5] at g; cases g).trans (b1 b o g)) b2 c3 (Array.getElem?_eq_some_iff.mp c4).1 c2 fun h' hN => ?_
  obtain ⟨n1, n2, n3, n4⟩ := hN
  exact hQ h' ⟨n1, b2, n2, n3⟩ fun b o g nf => n4 b o ((oth b (nrec b o g nf)).trans g) nf
/-- whatever its flight: noted by this frame -/
theorem Sky.note {M : Model} {A : Around} {E : Value → Shared → Prop} {B : Heap} {env : PySem.Env} {outer : List PySem.Env} {a L L' : Addr} {Z : Obj → Prop} {Q : Unit → Shared → Prop} (hZ : HandSPX.Steady Z) (hfr : A.frames = some (env :: outer)) (hf : env.frame = some L)
    (x : Sky B (env :: outer) a Z L' s.heap) (hQ : ∀ h', HandSPX.HeldZ B (env :: outer) a Z L h' → s.heap.UpToSlots h' → Q () { s with heap := h' }) : wpAny M A (noteFrame (.ref a) env) Q E s := by
  rcases x with ⟨y1, y2, y3, oe, vs, y4, y5, y6, y7⟩ | fl | hh
  · exact HandSPX.look_newZ hZ hfr y3 hf y4 y1 y2 y6 y7 y5 hQ
  · exact HandSPX.looks_onZ hZ hfr hf fl hQ
  · by_cases q : L' = L
    · subst q
      exact HandSPX.againZ hf hh.2.2.2 (hQ s.heap hh (Heap.UpToSlots.refl _))
    · exact look_offZ hZ hfr hf q hh hQ
theorem traced_but {h h' base base' : Heap} {C e : Addr} {Z : Obj → Prop} {fl : Value} {m : Str → Option Value} (t : HandSPX.TracedZ h base e Z fl) (hn : h.Ns C m) (sb : Heap.SameBut C h h') (hb : ∀ b, base.get? b = none → base'.get? b = none) : HandSPX.TracedZ h' base' e Z fl := by
  obtain ⟨oe, vs, T, oT, ts, c1, c2, c3, c4, c5, c6, c7, c8, c9⟩ := t
  obtain ⟨o, es, ep, n1, n2, _⟩ := hn
  refine ⟨oe, vs, T, oT, ts, (sb.2 e fun q => ?_).trans c1, c2, c3, c4, hb T c5, c6, (sb.2 T fun q => ?_).trans c7, c8, c9⟩
  · subst q
    rw [n1] at c1
    cases c1
    rw [n2] at c3
    cases c3
  · subst q
    rw [n1] at c7
    cases c7
    rw [n2] at c8
    cases c8
/-- THE WISH of a block's elements: what they raise leaves the block, and is wished for as before -/
theorem takes_blk {W : WX} {u3 : Shared} {J : Hp} {scope : Scope} {ce : PySem.Env} {fp : List Addr} (tk : Takes X W) (hs : X.stack = X.env :: X.outer) (hf : X.env.frame = some X.env.locals) (I3 : Inv X pins σ J u3) (hC : ce.locals = u3.heap.objs.size) (hcf : ce.frame = X.env.frame)
    (fo : ∀ b ∈ fp, FpOk X pins J b) : Takes (X.blkX u3 J scope ce fp (notedBy (model X.prog X.w) X.A ce (CompFails (model X.prog X.w) X.A X.xe ce))) (fun c d _ H' => W c d σ H') := by
  intro u s' x
  obtain ⟨a, B, sI, pins', σ', H', cls, d, rfl, I6, nb, up, sky, na, os, ag, w⟩ := x
  have hfr : X.A.frames = some (X.env :: X.outer) := by rw [I3.ok.frames, hs]
  have sky : Sky B (X.env :: X.outer) a (Zc cls d) ce.locals s'.heap := by rw [← hs]; exact sky
  obtain ⟨m, hn, _⟩ := I6.loc
  have hn : sI.heap.Ns ce.locals m := hn
  show wpAny _ X.A (noteFrame (.ref a) ce) _ _ s'
  rw [noteFrame_env (.ref a) hcf]
  refine sky.note Zc.steady hfr hf fun h1 held up1 => ?_
  have hn1 : h1.Ns ce.locals m := hn.upToSlots (up.trans up1)
  refine ⟨m, hn1, fun h2 m2 hn2 sb => ?_⟩
  -- the block's names are no part of what stands
  obtain ⟨G, gG⟩ : ∃ G, G = PySem.W.hideAll sI.heap [ce.locals] := ⟨_, rfl⟩
  obtain ⟨B', gB⟩ : ∃ B', B' = PySem.W.hideAll B [ce.locals] := ⟨_, rfl⟩
  have Gget : ∀ b o, sI.heap.get? b = some o → b ≠ ce.locals → G.get? b = some o := fun b o e q => by rw [gG]; exact PySem.W.hideAll_get _ e (by simpa using q)
  have Gof : ∀ b o, G.get? b = some o → sI.heap.get? b = some o ∧ b ≠ ce.locals := fun b o e => by
    rw [gG] at e
    refine ⟨PySem.W.of_hideAll _ e, fun q => ?_⟩
    rw [PySem.W.hideAll_none [ce.locals] (by simp [q])] at e
    cases e
  have Bof : ∀ b o, B'.get? b = some o → B.get? b = some o ∧ b ≠ ce.locals := fun b o e => by
    rw [gB] at e
    refine ⟨PySem.W.of_hideAll _ e, fun q => ?_⟩
    rw [PySem.W.hideAll_none [ce.locals] (by simp [q])] at e
    cases e
  have Bno : ∀ b, B.get? b = none → B'.get? b = none := fun b e => by
    cases q : B'.get? b with
    | none => rfl
    | some o => rw [(Bof b o q).1] at e; cases e
  have off : ∀ b o, u3.heap.get? b = some o → b ≠ ce.locals := fun b o e q => by
    have := Heap.lt_size e
    rw [q, hC] at this
    exact absurd this (Nat.lt_irrefl _)
  have fre : H' ce.locals = none := I6.free
  have Ib := I6.base
  have hok' : HOk X.prog X.w H' G := fun b o e => (I6.hok b o e).stay (fun c v hc q => Gget c v q fun z => by
    subst z
    rcases hc with z | z
    · rw [← z, fre] at e; cases e
    · rw [fre] at z; cases z) (fun _ q => q) fun _ _ q => q
  have IX : Inv X pins σ H' { sI with heap := G } := I3.call' (ch := fp) I6.os ⟨fun b o e n f x => Gget b o (Ib.keep b o e n f x) (off b o e), fun b o e n f x => by
      obtain ⟨sl, q⟩ := Ib.slot b o e n f x
      exact ⟨sl, Gget b _ q (off b o e)⟩, Ib.free, fun b o e x => by
      obtain ⟨o', q⟩ := Ib.there b o e x
      exact ⟨o', Gget b o' q (off b o e)⟩, Ib.tups, Ib.frzs, Ib.tbls⟩ hok' I6.bare fun b hb => ⟨(fo b hb).2.2.2.1, (fo b hb).2.1, (fo b hb).2.2.2.2.1, (fo b hb).2.2.2.2.2⟩
  have held2 : HandSPX.HeldZ B' (X.env :: X.outer) a (Zc cls d) X.env.locals h2 := by
    obtain ⟨b1, b2, b3, b4⟩ := held
    refine ⟨fun b o e => ?_, Bno a b2, funFrames_none (Heap.FunFrames.sameBut sb hn2 b3) fun L hL => Bno L (b3.mem hL).1, traced_but b4 hn1 sb Bno⟩
    obtain ⟨e1, e2⟩ := Bof b o e
    exact (sb.2 b e2).trans (b1 b o e1)
  obtain ⟨k1, k2, k3, oe, vs, T, oT, ts, c1, c2, c3, c4, c5, c6, c7, c8, c9⟩ := held2
  unfold PySem.passOn
  refine wpAny_bind (wpAny_field c1 c3 c4 ?_)
  rw [if_neg (by simp : ¬ ((Value.ref T == Value.none) = true)), hcf, hf]
  refine wpAny_bind (HandSPX.setFlight_onZ ⟨k1, k2, k3, oe, vs, T, oT, ts, c1, c2, c3, c4, c5, c6, c7, c8, c9⟩ fun h3 held3 up3 => wpAny_throw ?_)
  refine tk _ _ ⟨a, B', { sI with heap := G }, pins, σ, H', cls, d, rfl, IX, fun b o e q => ?_, fun b o e nf => ?_, .inr (.inr (by rw [hs]; exact held3)), na, os, ag, w⟩
  · obtain ⟨e1, e2⟩ := Gof b o e
    rw [gB]
    exact PySem.W.hideAll_get _ (nb b o e1 q) (by simpa using e2)
  · obtain ⟨e1, e2⟩ := Gof b o e
    obtain ⟨sl, q1⟩ := (up.trans up1) b o e1 nf
    obtain ⟨sl2, q2⟩ := up3 b _ ((sb.2 b e2).trans q1) nf
    exact ⟨sl2, q2⟩
/-- .. with elements and tests that raise what W wishes for -/
def tLcX (wi : TI) (g : TG) (tt : St → TT) (te : St → TE) (vs : List Nat) : TE := fun σ H Q => tLc wi g (tt σ) (te σ) vs σ H Q
theorem lc_coreX {Q : VK} {elt tg iter : Expr} {ifs : List Expr} {scope : Scope} {own : List (Str × Nat)} {pos pos' : Pos} {wi : TI} {g : TG} {tt : St → TT} {te : St → TE} {use : Option (Value → Sem Unit)} {Qf : Value → Shared → Prop} {W : WX}
    (tk : Takes X W) (hs : X.stack = X.env :: X.outer) (hf : X.env.frame = some X.env.locals) (calm : X.calm = true) (nd : X.N.Nodup) (I : Inv X pins σ H s) (pi : PI X tg iter wi) (ok : BlkOk X.N X.env.scope scope own)
    (pg : ∀ (u : Shared) (J : Hp) (C : Addr) (cl : List (Str × Addr)) (fp : List Addr) (E : Value → Shared → Prop), PG (X.blkX u J scope (compEnvC scope cl C X.env) fp E) tg g)
    (pt : ∀ (u : Shared) (J : Hp) (C : Addr) (cl : List (Str × Addr)) (fp : List Addr) (E : Value → Shared → Prop), Takes (X.blkX u J scope (compEnvC scope cl C X.env) fp E) (fun c d _ H' => W c d σ H') → PTs (X.blkX u J scope (compEnvC scope cl C X.env) fp E) ifs (tt σ))
    (pe : ∀ (u : Shared) (J : Hp) (C : Addr) (cl : List (Str × Addr)) (fp : List Addr) (E : Value → Shared → Prop), Takes (X.blkX u J scope (compEnvC scope cl C X.env) fp E) (fun c d _ H' => W c d σ H') → PE (X.blkX u J scope (compEnvC scope cl C X.env) fp E) elt (te σ))
    (fo : ∀ x, foldedSetIterable iter X.env x = pure x) (h : tLcX wi g tt te (own.map (·.2)) σ H Q)
    (fin : ∀ D ce u m J, Inv X pins σ J u → Q (.ref D) J → u.heap.Ns ce.locals m → FpOk X pins J ce.locals → compEnds (model X.prog X.w) X.A X.xe use Qf (.ref D) ce (.ok .next) u) :
    wpAny (model X.prog X.w) X.A (comprehension (.ListComp elt [⟨tg, iter, ifs, 0⟩] scope pos) scope X.env pos' (newList []) false (eval iter X.env) use) Qf X.xe s := by
  have fr : ∀ y ∈ scope.names, y.2 = .free → ∃ c, X.env.cells.lookup y.1 = some c := fun y hy e => (ok.free y hy e).elim (fun k => I.ok.has _ (.inl k)) fun k => I.ok.has _ (.inr k)
  refine comprehension_at (use := use) rfl fo (closure_ok fr) ok.kind (fun y hy e => by rw [ok.uniq y hy, e])
    (thn (pi.run pins s σ H _ I h) fun xv s1 hx => thn hx fun itv s2 hi => ?_)
  obtain ⟨it, fp, tn, J, H2, e, I2, T, sa, f2, q⟩ := hi
  subst e
  refine wpAny_newObj_type (newEnv_comp ?_) (Nat.zero_le _)
  obtain ⟨D, hD⟩ : ∃ D, s2.heap.objs.size = D := ⟨_, rfl⟩
  rw [hD]
  have Dn : H2 D = none := I2.hok.fresh (Nat.le_of_eq hD)
  obtain ⟨V, ⟨m0, v0⟩, turn⟩ := q D Dn
  obtain ⟨u3, hu3⟩ : ∃ u3, u3 = ({ s2 with heap := s2.heap.push { cls := .type "list", data := .seq ([] : List Value).toArray } } : Shared) := ⟨_, rfl⟩
  have I3 : Inv X pins σ (upd H2 D (.lst [])) u3 := by
    subst hu3
    refine I2.laid (t' := s2.toks) (fun b o z => Heap.get?_push_of_some _ z) (Nat.le_of_eq hD) ⟨Nat.zero_le _, [], 0, .nil, ?_⟩
    subst hD
    exact Heap.get?_push_size _ rfl
  have hp3 : u3.heap = s2.heap.push { cls := .type "list", data := .seq ([] : List Value).toArray } := by subst hu3; rfl
  have small : ∀ b ∈ fp, b < s2.heap.objs.size := fun b hb => (T.obj _ _ sa b hb).elim fun o z => Heap.lt_size z.1
  have f3 : ∀ b ∈ fp, FpOk X pins (upd H2 D (.lst [])) b ∧ b < u3.heap.objs.size := fun b hb => by
    have lt := small b hb
    refine ⟨⟨?_, (f2 b hb).2⟩, by rw [hp3, Heap.size_push]; exact Nat.lt_succ_of_lt lt⟩
    rw [upd_ne (by subst hD; exact Nat.ne_of_lt lt)]
    exact (f2 b hb).1
  have sb : tn 0 u3.heap := T.keep _ _ _ sa fun b _ o z => by rw [hp3]; exact Heap.get?_push_of_some _ z
  have I4 := block_start I3 ok nd f3
  show codeAny _ _ (.compStart (.ListComp elt [⟨tg, iter, ifs, 0⟩] scope pos) 0 (.ref it) (.ref D) (compEnvC scope (cellsFrom ((s2.heap.push { cls := .type "list", data := .seq ([] : List Value).toArray }).objs.size + 1) scope.names (cloFrom X.env.cells scope.names [])) (s2.heap.push { cls := .type "list", data := .seq ([] : List Value).toArray }).objs.size X.env)) (compEnds (model X.prog X.w) X.A X.xe use Qf (.ref D) (compEnvC scope (cellsFrom ((s2.heap.push { cls := .type "list", data := .seq ([] : List Value).toArray }).objs.size + 1) scope.names (cloFrom X.env.cells scope.names [])) (s2.heap.push { cls := .type "list", data := .seq ([] : List Value).toArray }).objs.size X.env)) { s2 with heap := pushCells ((s2.heap.push { cls := .type "list", data := .seq ([] : List Value).toArray }).push { cls := .type "dict", data := .dict #[] }) scope.names }
  rw [← hp3]
  have nfp : ∀ b ∈ fp, (upd H2 D (.lst [])) b = none := fun b hb => (f3 b hb).1.1
  obtain ⟨u4, hu4⟩ : ∃ u4, u4 = ({ s2 with heap := pushCells (u3.heap.push { cls := .type "dict", data := .dict #[] }) scope.names } : Shared) := ⟨_, rfl⟩
  have hu4' : ({ u3 with heap := pushCells (u3.heap.push { cls := .type "dict", data := .dict #[] }) scope.names } : Shared) = u4 := by rw [hu4]; subst hu3; rfl
  rw [hu4'] at I4
  rw [← hu4]
  obtain ⟨E, hE⟩ : ∃ E, E = notedBy (model X.prog X.w) X.A (compEnvC scope (cellsFrom (u3.heap.objs.size + 1) scope.names (cloFrom X.env.cells scope.names [])) u3.heap.objs.size X.env) (CompFails (model X.prog X.w) X.A X.xe (compEnvC scope (cellsFrom (u3.heap.objs.size + 1) scope.names (cloFrom X.env.cells scope.names [])) u3.heap.objs.size X.env)) := ⟨_, rfl⟩
  have I4 := I4.toX (E := E)
  have tkB : Takes (X.blkX u3 (upd H2 D (.lst [])) scope (compEnvC scope (cellsFrom (u3.heap.objs.size + 1) scope.names (cloFrom X.env.cells scope.names [])) u3.heap.objs.size X.env) fp E) (fun c d _ H' => W c d σ H') := by
    rw [hE]
    exact takes_blk tk hs hf I3 rfl rfl fun b hb => (f3 b hb).1
  have qg := pg u3 (upd H2 D (.lst [])) u3.heap.objs.size (cellsFrom (u3.heap.objs.size + 1) scope.names (cloFrom X.env.cells scope.names [])) fp E
  have qt := pt u3 (upd H2 D (.lst [])) u3.heap.objs.size (cellsFrom (u3.heap.objs.size + 1) scope.names (cloFrom X.env.cells scope.names [])) fp E tkB
  have qe := pe u3 (upd H2 D (.lst [])) u3.heap.objs.size (cellsFrom (u3.heap.objs.size + 1) scope.names (cloFrom X.env.cells scope.names [])) fp E tkB
  obtain ⟨ce, hce⟩ : ∃ ce, ce = compEnvC scope (cellsFrom (u3.heap.objs.size + 1) scope.names (cloFrom X.env.cells scope.names [])) u3.heap.objs.size X.env := ⟨_, rfl⟩
  have cL : ce.locals = u3.heap.objs.size := by subst hce; rfl
  rw [← hce] at I4 qg qt qe hE ⊢
  obtain ⟨J3, hJ3⟩ : ∃ J3, J3 = upd H2 D (.lst []) := ⟨_, rfl⟩
  rw [← hJ3] at I3 I4 qg qt qe v0 nfp f3
  have sc : tn 0 u4.heap := T.keep _ _ _ sb fun b _ o z => by rw [hu4]; exact pushCells_keeps _ _ _ _ (Heap.get?_push_of_some _ z)
  have stat : ∀ {σ' : St} {H' : Hp} {u : Shared}, Inv (X.blkX u3 J3 scope ce fp E) [] σ' H' u → (∀ b ∈ fp, H' b = none) → ∀ b ∈ fp, FpOk (X.blkX u3 J3 scope ce fp E) [] H' b := fun {σ' H' u} I' hn b hb =>
    ⟨hn b hb, (I'.ok.exf b hb).1, I'.ok.exfs b hb, .inl hb, fun x c z => (I'.ok.exf b hb).2 x c z, fun p hp => absurd (show p ∈ ([] : List (Addr × Obj)) ++ [] from hp) (by simp)⟩
  have eE : (notedBy (model X.prog X.w) X.A ce fun e s' => compEnds (model X.prog X.w) X.A X.xe use Qf (.ref D) ce (.error e) s') = E := by
    rw [hE]
    have : (fun e s' => compEnds (model X.prog X.w) X.A X.xe use Qf (.ref D) ce (.error e) s') = CompFails (model X.prog X.w) X.A X.xe ce := by
      funext e s'
      cases use <;> rfl
    rw [this]
  have loop : codeAny (model X.prog X.w) X.A (.compLoop (.ListComp elt [⟨tg, iter, ifs, 0⟩] scope pos) 0 (.ref it) (.ref D) ce) (compEnds (model X.prog X.w) X.A X.xe use Qf (.ref D) ce) u4 := by
    refine compLoop_any (fun n u => ∃ i H', Inv (X.blkX u3 J3 scope ce fp E) [] (wipe σ (own.map (·.2))) H' u ∧ tn i u.heap ∧ (∀ b ∈ fp, H' b = none) ∧ V i n H') ?_ m0 ⟨0, J3, I4, sc, nfp, v0⟩
    rw [eE]
    rintro n u5 ⟨i, H5, I5, s5, n5, w5⟩
    rcases turn i n H5 w5 with ⟨stop, qq⟩ | ⟨go, Nx, hNx, step⟩
    · refine thnF (T.done (X.blkX u3 J3 scope ce fp E) rfl rfl rfl calm i [] u5 _ H5 (fun _ _ => False) I5 (stat I5 n5) s5 stop) fun r u6 ⟨hr, I6⟩ => ?_
      subst hr
      have I7 : Inv X pins σ H5 u6 := I3.call' (ch := fp) I6.os I6.base I6.hok I6.bare fun b hb => ⟨(f3 b hb).1.2.2.2.1, (f3 b hb).1.2.1, (f3 b hb).1.2.2.2.2.1, (f3 b hb).1.2.2.2.2.2⟩
      have nC : H5 ce.locals = none := I6.free
      obtain ⟨m, hn, _⟩ := I6.loc
      exact fin D ce u6 m H5 I7 qq hn (by rw [cL] at nC ⊢; exact I3.fpOk (Nat.le_refl _) nC)
    · refine thnF (T.item (X.blkX u3 J3 scope ce fp E) rfl rfl rfl calm i [] u5 _ H5 (fun _ _ => False) I5 (stat I5 n5) s5 go) fun r u6 ⟨u, hr, h6⟩ => ?_
      subst hr
      refine thnF h6 fun _ u7 ⟨x, H7, I7, r7, y7, s7, n7⟩ => ?_
      refine thn (qg.run _ u7 _ H7 x u _ (I7.pinned (stat I7 n7) (T.obj _ _ s7)) r7 (step x H7 y7)) fun _ u8 ⟨σ8, H8, I8, hw8, q8⟩ => ?_
      refine thn (qt.run _ u8 σ8 H8 _ I8 q8) fun b u9 ⟨H9, I9, q9⟩ => ?_
      have close : ∀ {u : Shared} {H' : Hp}, Inv (X.blkX u3 J3 scope ce fp E) ([] ++ pinsAt fp u7.heap) σ8 H' u → Nx H' → ∃ m, m < n ∧ ∃ i H', Inv (X.blkX u3 J3 scope ce fp E) [] (wipe σ (own.map (·.2))) H' u ∧ tn i u.heap ∧ (∀ b ∈ fp, H' b = none) ∧ V i m H' := fun {u H'} I' nx => by
        obtain ⟨m', hm, w'⟩ := hNx H' nx
        have there : ∀ b ∈ fp, ∀ o, u7.heap.get? b = some o → u.heap.get? b = some o ∧ H' b = none := fun b hb o z =>
          let y := I'.pin (b, o) (List.mem_append_right _ (List.mem_append_right _ (mem_pinsAt hb z)))
          ⟨y.1, y.2.1⟩
        have ll : (wipe σ (own.map (·.2))).length = σ8.length := by rw [← hw8, wipe_length]
        refine ⟨m', hm, i + 1, H', (I'.unpinned (pins := [])).weak ll (fun j v z => ?_), T.keep _ _ _ s7 fun b hb o z => (there b hb o z).1, fun b hb => ?_, w'⟩
        · rw [← hw8] at z
          exact (wipe_some z).1
        · obtain ⟨o, z, _⟩ := T.obj _ _ s7 b hb
          exact (there b hb o z).2
      cases b with
      | false => exact close I9 q9
      | true =>
        have q9 : te σ σ8 H9 fun y H4 => ∃ acc, H4 D = some (.lst acc) ∧ acc.length < sizeLine ∧ Nx (upd H4 D (.lst (acc ++ [y]))) := q9
        show wpAny _ _ (eval elt ce) _ _ _
        refine thn (qe.run _ u9 σ8 H9 _ I9 q9) fun z u10 ⟨yv, H10, I10, r10, acc, hD10, hz10, nx⟩ => ?_
        exact app_ok (X := X.blkX u3 J3 scope ce fp E) I10 hD10 hz10 r10 fun u11 I11 => close I11 nx
  exact codeAny_compStart_list loop (T.self X.A 0 _ _ _ sc loop)
theorem pe_lcX {elt tg iter : Expr} {ifs : List Expr} {scope : Scope} {own : List (Str × Nat)} {pos : Pos} {wi : TI} {g : TG} {tt : St → TT} {te : St → TE} {W : WX}
    (tk : Takes X W) (hs : X.stack = X.env :: X.outer) (hf : X.env.frame = some X.env.locals) (calm : X.calm = true) (nd : X.N.Nodup) (pi : PI X tg iter wi) (ok : BlkOk X.N X.env.scope scope own)
    (pg : ∀ (u : Shared) (J : Hp) (C : Addr) (cl : List (Str × Addr)) (fp : List Addr) (E : Value → Shared → Prop), PG (X.blkX u J scope (compEnvC scope cl C X.env) fp E) tg g)
    (pt : ∀ (σ : St) (u : Shared) (J : Hp) (C : Addr) (cl : List (Str × Addr)) (fp : List Addr) (E : Value → Shared → Prop), Takes (X.blkX u J scope (compEnvC scope cl C X.env) fp E) (fun c d _ H' => W c d σ H') → PTs (X.blkX u J scope (compEnvC scope cl C X.env) fp E) ifs (tt σ))
    (pe : ∀ (σ : St) (u : Shared) (J : Hp) (C : Addr) (cl : List (Str × Addr)) (fp : List Addr) (E : Value → Shared → Prop), Takes (X.blkX u J scope (compEnvC scope cl C X.env) fp E) (fun c d _ H' => W c d σ H') → PE (X.blkX u J scope (compEnvC scope cl C X.env) fp E) elt (te σ))
    (fo : ∀ x, foldedSetIterable iter X.env x = pure x) : PE X (.ListComp elt [⟨tg, iter, ifs, 0⟩] scope pos) (tLcX wi g tt te (own.map (·.2))) := by
  refine ⟨fun pins s σ H Q I h => ?_⟩
  rw [eval_ListComp]
  refine lc_coreX tk hs hf calm nd I pi ok pg (pt σ) (pe σ) fo h fun D ce u m J I' q hn f => ⟨m, hn, fun h2 sb => ?_⟩
  obtain ⟨g0, g1, _, g3, g4, g5⟩ := f
  exact ⟨.ref D, J, I'.turned (t' := u.toks) (fun b o hb e => (sb.2 b hb).trans e) g0 g1 g3 g4 g5, rfl, q⟩
theorem ps_setLcX {i : Nat} {y : Str} {py : Pos} {elt tg iter : Expr} {ifs : List Expr} {scope : Scope} {own : List (Str × Nat)} {pos spos : Pos} {wi : TI} {g : TG} {tt : St → TT} {te : St → TE} {W : WX}
    (tk : Takes X W) (hs : X.stack = X.env :: X.outer) (hf : X.env.frame = some X.env.locals) (calm : X.calm = true) (nd : X.N.Nodup) (hy : X.N[i]? = some y) (hyl : X.env.scope.names.lookup y = some .local)
    (hsw : swapsWith (.ListComp elt [⟨tg, iter, ifs, 0⟩] scope pos) (some (.Name y py)) spos.line X.env = pure true) (pi : PI X tg iter wi) (ok : BlkOk X.N X.env.scope scope own)
    (pg : ∀ (u : Shared) (J : Hp) (C : Addr) (cl : List (Str × Addr)) (fp : List Addr) (E : Value → Shared → Prop), PG (X.blkX u J scope (compEnvC scope cl C X.env) fp E) tg g)
    (pt : ∀ (σ : St) (u : Shared) (J : Hp) (C : Addr) (cl : List (Str × Addr)) (fp : List Addr) (E : Value → Shared → Prop), Takes (X.blkX u J scope (compEnvC scope cl C X.env) fp E) (fun c d _ H' => W c d σ H') → PTs (X.blkX u J scope (compEnvC scope cl C X.env) fp E) ifs (tt σ))
    (pe : ∀ (σ : St) (u : Shared) (J : Hp) (C : Addr) (cl : List (Str × Addr)) (fp : List Addr) (E : Value → Shared → Prop), Takes (X.blkX u J scope (compEnvC scope cl C X.env) fp E) (fun c d _ H' => W c d σ H') → PE (X.blkX u J scope (compEnvC scope cl C X.env) fp E) elt (te σ))
    (fo : ∀ x, foldedSetIterable iter X.env x = pure x) : PS X (.Assign [.Name y py] (.ListComp elt [⟨tg, iter, ifs, 0⟩] scope pos) spos) (tAsg (tLcX wi g tt te (own.map (·.2))) (gName i)) := by
  refine ⟨fun pins s σ H D I h => ?_⟩
  rw [exec_Assign_Name_used _ _ _ _ hsw]
  refine wpAny_bind (wpAny_standAt (wpAny_bind ?_))
  show wpAny _ X.A (do let _ ← comprehension (.ListComp elt [⟨tg, iter, ifs, 0⟩] scope pos) scope X.env (firstIterPos [⟨tg, iter, ifs, 0⟩] pos) (newList []) false (eval iter X.env) (some (assign (.Name y py) X.env))) _ _ s
  have h : tLcX wi g tt te (own.map (·.2)) σ H (fun x J => gName i x σ J D.nx) := h
  refine wpAny_bind (thn (lc_coreX (Qf := fun _ u => SP X pins D .next u) tk hs hf calm nd I pi ok pg (pt σ) (pe σ) fo h fun L ce u m J I' q hn f => ?_) fun _ u hq => wpAny_pure (wpAny_pure hq))
  show wpAny _ _ (assign (.Name y py) X.env (.ref L)) _ _ _
  refine wpAny_assign_Name (store_ok2 (v := V.ref L) I' nd hy (.inl hyl) rfl (fun v I2 ⟨a, sb, ha⟩ => ?_) (.inr hyl))
  obtain ⟨g0, g1, _, g3, g4, g5⟩ := f
  have off : ce.locals ≠ a := by
    rcases ha with z | z
    · rw [z]; exact g1
    · exact fun e => g4 y a z e.symm
  exact ⟨m, hn.sameBut sb off, fun h3 sb3 => ⟨_, J, I2.turned (t' := v.toks) (fun b o hb e => (sb3.2 b hb).trans e) g0 g1 g3 g4 g5, q⟩⟩
end
end L2

/-! Comprehensions, raise, try. -/
namespace Dy
open PySem PySem.Spec PyProof.Rows L2
section
variable {X : Cx} {W : WJ}
def noX {α : Type} : Res α → Res α
  | .ok a h => .ok a h
  | .exc _ _ => .stuck
  | .stuck => .stuck
def wipeE (e : Env) : List Nat → Env
  | [] => e
  | v :: vs => (wipeE e vs).set v none
def compL (t : Tgt) (tst : TM) (elt : EM) (s : Src) (e0 : Env) : Nat → Nat → PH → Res (List D)
  | 0, _, _ => .stuck
  | f + 1, i, h => match s.item i h with
    | none => .stuck
    | some none => .ok [] h
    | some (some d) => (match tgt t d e0 h with
      | none => .stuck
      | some e1 => (tst e1 h).bind fun c h1 => match c with
        | true => (elt e1 h1).bind fun v h2 => (compL t tst elt s e0 f (i + 1) (h2.cut (max h.cs.length (max h2.lim v.mr)))).bind fun vs h3 => .ok (v :: vs) h3
        | false => compL t tst elt s e0 f (i + 1) (h1.cut (max h.cs.length h1.lim)))
def finL (ds : List D) (h : PH) : Res D := if ds.length ≤ 16777216 then newL ds h else .stuck
def compE (m : IM) (own : List Nat) (t : Tgt) (tst : TM) (elt : EM) : EM := fun e h => (m e h).bind fun s h1 => (noX (compL t tst elt s (wipeE e own) (s.fuel h1) 0 h1)).bind finL
def yesT : TM := fun _ h => .ok true h

theorem EnvIs.wipe {K : KX} {ρ : List Addr} {H : Hp} {env : Env} {σ : L2.St} (hj : ∀ σ, K.J σ) (h : EnvIs K ρ H env σ) : ∀ vs : List Nat, EnvIs K ρ H (wipeE env vs) (L2.wipe σ vs)
  | [] => h
  | v :: vs => by
    have ih := EnvIs.wipe hj h vs
    refine ⟨by show ((wipeE env vs).set v none).length = ((L2.wipe σ vs).set v none).length; rw [List.length_set, List.length_set]; exact ih.len, fun i d e => ?_, hj _⟩
    have e : ((wipeE env vs).set v none)[i]? = some (some d) := e
    by_cases hv : v = i
    · subst hv
      by_cases hl : v < (wipeE env vs).length
      · rw [List.getElem?_set_self hl] at e; cases e
      · rw [List.getElem?_eq_none (by rw [List.length_set]; omega)] at e; cases e
    · rw [List.getElem?_set_ne hv] at e
      obtain ⟨x, e1, e2⟩ := ih.at_ i d e
      refine ⟨x, ?_, e2⟩
      show ((L2.wipe σ vs).set v none)[i]? = _
      rw [List.getElem?_set_ne hv]; exact e1
theorem EnvWf.wipe {env : Env} {n : Nat} (w : EnvWf env n) : ∀ vs : List Nat, EnvWf (wipeE env vs) n
  | [] => w
  | v :: vs => fun i d e => by
    have e : ((wipeE env vs).set v none)[i]? = some (some d) := e
    by_cases hv : v = i
    · subst hv
      by_cases hl : v < (wipeE env vs).length
      · rw [List.getElem?_set_self hl] at e; cases e
      · rw [List.getElem?_eq_none (by rw [List.length_set]; omega)] at e; cases e
    · rw [List.getElem?_set_ne hv] at e
      exact EnvWf.wipe w vs i d e
/-- a tracked list beside the cells is changed -/
theorem Ext.side {K : KX} {ρ ρ1 : List Addr} {H H1 : Hp} {h1 : PH} {p : Addr} {xs ys : List V} (x : Ext K ρ H h1 ρ1 H1) (np : H p = none) (nr : p ∉ ρ1) (hp : H1 p = some (.lst xs)) : Ext K ρ H h1 ρ1 (upd H1 p (.lst ys)) := by
  have k : TupsKeep H1 (upd H1 p (.lst ys)) := keep_old hp (fun _ z => by cases z) (fun _ _ z => by cases z)
  refine ⟨x.pre, x.fresh, fun a o na e => ?_, x.kept.trans k, ⟨x.rel.len, x.rel.nd, fun n c a e1 e2 => ?_⟩, x.wf⟩
  · have ha : a ≠ p := ne_of_none e np
    rw [upd_ne ha]; exact x.frame a o na e
  · have hm : a ∈ ρ1 := List.mem_of_getElem? e2
    have ha : a ≠ p := fun z => nr (z ▸ hm)
    exact CellIs.mono (ρ := ρ1) (H := H1) k (max n h1.lim) (fun i _ x hx => hx) (x.wf.at_ n c e1) (upd_ne ha) (x.rel.at_ n c a e1 e2)
/-- it becomes a cell -/
theorem Ext.adopt {K : KX} {ρ ρ1 : List Addr} {H H1 : Hp} {h1 : PH} {p : Addr} {xs : List V} {ds : List D} (x : Ext K ρ H h1 ρ1 H1) (np : H p = none) (nr : p ∉ ρ1) (hp : H1 p = some (.lst xs)) (i : IsL K ρ1 H1 ds xs) (l : mrL ds ≤ h1.cs.length) :
    Ext K ρ H (h1.push (.lst ds)) (ρ1 ++ [p]) H1 ∧ RD K (ρ1 ++ [p]) H1 (h1.push (.lst ds)).cs.length (.ref h1.cs.length) (.ref p) := by
  obtain ⟨m, e⟩ := x.pre
  have hlen := x.rel.len
  refine ⟨⟨⟨m ++ [p], by rw [e, List.append_assoc]⟩, fun a h2 h3 => ?_, x.frame, x.kept, ⟨?_, ?_, fun n c a e1 e2 => ?_⟩, x.wf.push l⟩, ?_, ?_⟩
  · rcases List.mem_append.mp h2 with z | z
    · exact x.fresh a z h3
    · have : a = p := by simpa using z
      rw [this]; exact np
  · show (ρ1 ++ [p]).length = (h1.cs ++ [Cell.lst ds]).length
    rw [List.length_append, List.length_append, hlen]; rfl
  · refine List.nodup_append.mpr ⟨x.rel.nd, by simp, fun a ha b hb z => ?_⟩
    have : b = p := by simpa using hb
    subst this
    exact nr (z ▸ ha)
  · have e1 : (h1.cs ++ [Cell.lst ds])[n]? = some c := e1
    by_cases hn : n < h1.cs.length
    · rw [List.getElem?_append_left hn] at e1
      rw [List.getElem?_append_left (by rw [hlen]; exact hn)] at e2
      refine CellIs.mono (ρ := ρ1) (H := H1) (TupsKeep.refl _) (max n h1.lim) (fun i _ x hx => ?_) (x.wf.at_ n c e1) rfl (x.rel.at_ n c a e1 e2)
      rw [List.getElem?_append_left (List.getElem?_eq_some_iff.mp hx).1]; exact hx
    · rw [List.getElem?_append_right (by omega)] at e1
      have hz : n = h1.cs.length := by
        rcases Nat.eq_zero_or_pos (n - h1.cs.length) with z | z
        · omega
        · rw [List.getElem?_eq_none (by simp; omega)] at e1; cases e1
      subst hz
      rw [← hlen, List.getElem?_append_right (Nat.le_refl _), Nat.sub_self] at e2
      rw [Nat.sub_self] at e1
      have ea : p = a := by simpa using e2
      have ec : Cell.lst ds = c := by simpa using e1
      subst ea; subst ec
      exact ⟨xs, hp, IsL.mono (TupsKeep.refl _) ρ1.length (fun i hi a ha => by rw [List.getElem?_append_left hi]; exact ha) ds xs (by rw [hlen]; exact l) i⟩
  · unfold Is
    exact ⟨p, by rw [← hlen, List.getElem?_append_right (Nat.le_refl _), Nat.sub_self]; rfl, rfl⟩
  · unfold D.mr
    show _ ≤ (h1.cs ++ [Cell.lst ds]).length
    rw [List.length_append]; exact Nat.le_refl _
theorem IsL.cutR {K : KX} {ρ : List Addr} {H : Hp} {n : Nat} {d : List D} {v : List V} (l : mrL d ≤ n) (x : IsL K ρ H d v) : IsL K (ρ.take n) H d v :=
  IsL.mono (TupsKeep.refl _) n (fun i hi a ha => by rw [List.getElem?_take_of_lt hi]; exact ha) d v l x

/-- the whole of a comprehension's reading -/
abbrev W0 : WJ := ⟨fun _ _ _ _ => False, none⟩
theorem t_comp {K : KX} (hj : ∀ σ, K.J σ) {m : IM} {own : List Nat} {t : Tgt} {tst : TM} {elt : EM} {g : TG} (ok : TgOk K t g) (ho : ∀ i ∈ t.slots, i ∈ own) {σ : L2.St} {H : Hp} {Q : VK} (q : tE K W (compE m own t tst elt) σ H Q) :
    tLc (tG K W (RS K) m) g (tT K W0 tst) (tE K W0 elt) own σ H Q := by
  obtain ⟨ρ, env, h, rl, p⟩ := q
  refine tG_mono (PostG.bind (R := RS K) rl p) fun J H1 ⟨ρ1, h1, s, x1, rs, p1⟩ p0 np => ?_
  have rl1 := rl.ext x1
  have np1 : p0 ∉ ρ1 := rl1.heap.fresh (h := h1) np
  refine ⟨fun i n H' => ∃ ρi hi acc accV, Ext K ρ1 H1 hi ρi H' ∧ p0 ∉ ρi ∧ H' p0 = some (.lst accV) ∧ IsL K ρi H' acc accV ∧ mrL acc ≤ hi.cs.length ∧ PostG K W (RD K) σ Q ρ1 H1 ((noX (compL t tst elt s (wipeE env own) n i hi)).bind fun vs h' => finL (acc ++ vs) h'),
    ⟨_, ρ1, h1, [], [], Ext.obj rl1.heap rl1.wf np, np1, upd_same, by unfold IsL; rfl, Nat.zero_le _, p1⟩, ?_⟩
  rintro i n H' ⟨ρi, hi, acc, accV, xi, npi, hp, ia, la, pi⟩
  cases n with
  | zero => exact pi.elim
  | succ n =>
    have q := rs i ρi hi H' xi
    unfold compL at pi
    split at pi
    · exact pi.elim
    · rename_i e0
      rw [e0] at q
      refine .inl ⟨q, ?_⟩
      have pi : PostG K W (RD K) σ Q ρ1 H1 (finL (acc ++ []) hi) := pi
      rw [List.append_nil] at pi
      unfold finL at pi
      split at pi
      · obtain ⟨y1, y2⟩ := xi.adopt np npi hp ia la
        exact pi _ _ H' y1 y2
      · exact pi.elim
    · rename_i d e0
      rw [e0] at q
      obtain ⟨go, yld⟩ := q
      refine .inr ⟨go, fun H2 => ∃ m', m' < n + 1 ∧ ∃ ρi hi acc accV, Ext K ρ1 H1 hi ρi H2 ∧ p0 ∉ ρi ∧ H2 p0 = some (.lst accV) ∧ IsL K ρi H2 acc accV ∧ mrL acc ≤ hi.cs.length ∧ PostG K W (RD K) σ Q ρ1 H1 ((noX (compL t tst elt s (wipeE env own) m' (i + 1) hi)).bind fun vs h' => finL (acc ++ vs) h'), fun H2 w => w, fun x H'' y => ?_⟩
      obtain ⟨e1, rd⟩ := yld x H'' y
      subst e1
      split at pi
      · exact pi.elim
      · rename_i en1 e2
        have rli := rl1.ext xi
        have rlw : Rel K ρi (wipeE env own) hi (wipe σ own) H'' := ⟨EnvIs.wipe hj rli.eis own, rli.heap, rli.wf, rli.ewf.wipe own⟩
        refine ok ρi _ en1 hi (wipe σ own) H'' d x _ rlw rd e2 fun σ3 r3 w3 => ?_
        have ww : wipe σ3 own = wipe σ own := by
          rw [w3 own ho]
          apply List.ext_getElem?
          intro j
          rw [wipe_get, wipe_get, wipe_length]
          split <;> rfl
        refine ⟨ww, ρi, en1, hi, r3, ?_⟩
        cases et : tst en1 hi with
        | stuck => rw [et] at pi; exact pi.elim
        | exc c h2 => rw [et] at pi; exact pi.elim
        | ok b h2 =>
          rw [et] at pi
          intro ρ4 b4 H4 x4 rb
          have eb : b = b4 := rb
          subst eb
          have np4 : p0 ∉ ρ4 := fun z => by have := x4.fresh p0 z npi; rw [hp] at this; cases this
          have hp4 := x4.frame p0 _ npi hp
          have ia4 := x4.isL (by rw [xi.rel.len]; exact la) ia
          cases b with
          | false =>
            refine iteF ?_
            have l4 := x4.le
            rw [xi.rel.len] at l4
            have l5 := xi.le
            have x5 := (xi.trans x4).cut (n := max hi.cs.length h2.lim) (by omega) (by omega)
            have wf := x4.wf.le
            refine ⟨n, Nat.lt_succ_self n, ρ4.take (max hi.cs.length h2.lim), h2.cut (max hi.cs.length h2.lim), acc, accV, x5, fun z => np4 (List.mem_of_mem_take z), hp4, IsL.cutR (by omega) ia4, ?_, pi⟩
            show mrL acc ≤ (h2.cs.take _).length
            rw [List.length_take]; omega
          | true =>
            refine iteT ?_
            have rl4 := r3.ext x4
            refine ⟨ρ4, en1, h2, rl4, ?_⟩
            dsimp only [Res.bind] at pi
            cases ee : elt en1 h2 with
            | stuck => rw [ee] at pi; exact pi.elim
            | exc c h3 => rw [ee] at pi; exact pi.elim
            | ok v h3 =>
              rw [ee] at pi
              intro ρ5 y5 H5 x5 r5
              have np5 : p0 ∉ ρ5 := fun z => by have := x5.fresh p0 z np4; rw [hp4] at this; cases this
              have hp5 := x5.frame p0 _ np4 hp4
              have l4 := x4.le
              rw [xi.rel.len] at l4
              have l5 := x5.le
              rw [rl4.len] at l5
              have ia5 := x5.isL (by rw [rl4.len]; omega) ia4
              have wf5 := x5.wf.le
              have lx := xi.le
              have r52 := r5.2
              have xc := ((xi.trans x4).trans x5).cut (n := max hi.cs.length (max h3.lim v.mr)) (by omega) (by omega)
              have pi : PostG K W (RD K) σ Q ρ1 H1 ((noX ((compL t tst elt s (wipeE env own) n (i + 1) (h3.cut (max hi.cs.length (max h3.lim v.mr)))).bind fun vs h3 => .ok (v :: vs) h3)).bind fun vs h' => finL (acc ++ vs) h') := pi
              have hz : acc.length < 16777216 ∧ PostG K W (RD K) σ Q ρ1 H1 ((noX (compL t tst elt s (wipeE env own) n (i + 1) (h3.cut (max hi.cs.length (max h3.lim v.mr))))).bind fun vs h' => finL ((acc ++ [v]) ++ vs) h') := by
                cases ec : compL t tst elt s (wipeE env own) n (i + 1) (h3.cut (max hi.cs.length (max h3.lim v.mr))) with
                | stuck => rw [ec] at pi; exact pi.elim
                | exc c h6 => rw [ec] at pi; exact pi.elim
                | ok vs h6 =>
                  rw [ec] at pi
                  have pi : PostG K W (RD K) σ Q ρ1 H1 (finL (acc ++ v :: vs) h6) := pi
                  refine ⟨?_, ?_⟩
                  · unfold finL at pi
                    split at pi
                    · rename_i hl
                      rw [List.length_append, List.length_cons] at hl
                      omega
                    · exact pi.elim
                  · show PostG K W (RD K) σ Q ρ1 H1 (finL ((acc ++ [v]) ++ vs) h6)
                    rw [List.append_assoc]; exact pi
              refine ⟨accV, hp5, by rw [sizeLine_eq, ia5.length]; exact hz.1, n, Nat.lt_succ_self n, ρ5.take (max hi.cs.length (max h3.lim v.mr)), h3.cut (max hi.cs.length (max h3.lim v.mr)), acc ++ [v], accV ++ [y5],
                Ext.side xc np (fun z => np5 (List.mem_of_mem_take z)) hp5, fun z => np5 (List.mem_of_mem_take z), upd_same, ?_, ?_, hz.2⟩
              · have k : TupsKeep H5 (upd H5 p0 (.lst (accV ++ [y5]))) := keep_old hp5 (fun _ z => by cases z) (fun _ _ z => by cases z)
                refine IsL.mono k (max hi.cs.length (max h3.lim v.mr)) (fun j _ a ha => ha) _ _ ?_ ?_
                · rw [mrL_append]
                  show max (mrL acc) (max v.mr 0) ≤ _
                  omega
                · refine (IsL.cutR (by omega) ia5).append ?_
                  unfold IsL
                  exact ⟨y5, [], rfl, Is.cut (by omega) r5.1, by unfold IsL; rfl⟩
              · show mrL (acc ++ [v]) ≤ (h3.cs.take _).length
                rw [mrL_append, List.length_take]
                show max (mrL acc) (max v.mr 0) ≤ _
                omega
/-- .. of elements that raise -/
def WB (W : WJ) (σ : L2.St) : WJ := ⟨fun c d _ H' => W.w c d σ H', none⟩
def fXA (N : Nat) (acc : List D) (r : Res (List D)) : Res D := match r with
  | .ok vs h => finL (acc ++ vs) h
  | .exc c h => if N ≤ 16777216 then .exc c h else .stuck
  | .stuck => .stuck
def compXE (m : IM) (own : List Nat) (t : Tgt) (tst : TM) (elt : EM) : EM := fun e h => (m e h).bind fun s h1 => fXA (s.fuel h1) [] (compL t tst elt s (wipeE e own) (s.fuel h1) 0 h1)
theorem t_compX {K : KX} (hj : ∀ σ, K.J σ) {m : IM} {own : List Nat} {t : Tgt} {tst : TM} {elt : EM} {g : TG} (ok : TgOk K t g) (ho : ∀ i ∈ t.slots, i ∈ own) {σ : L2.St} {H : Hp} {Q : VK} (q : tE K W (compXE m own t tst elt) σ H Q) :
    tLcX (tG K W (RS K) m) g (fun σ => tT K (WB W σ) tst) (fun σ => tE K (WB W σ) elt) own σ H Q := by
  obtain ⟨ρ, env, h, rl, p⟩ := q
  refine tG_mono (PostG.bind (R := RS K) rl p) fun J H1 ⟨ρ1, h1, s, x1, rs, p1⟩ p0 np => ?_
  have rl1 := rl.ext x1
  have np1 : p0 ∉ ρ1 := rl1.heap.fresh (h := h1) np
  refine ⟨fun i n H' => ∃ ρi hi acc accV, Ext K ρ1 H1 hi ρi H' ∧ p0 ∉ ρi ∧ H' p0 = some (.lst accV) ∧ IsL K ρi H' acc accV ∧ mrL acc ≤ hi.cs.length ∧ acc.length ≤ i ∧ i + n = s.fuel h1 ∧ PostG K W (RD K) σ Q ρ1 H1 (fXA (s.fuel h1) acc (compL t tst elt s (wipeE env own) n i hi)),
    ⟨_, ρ1, h1, [], [], Ext.obj rl1.heap rl1.wf np, np1, upd_same, by unfold IsL; rfl, Nat.zero_le _, Nat.zero_le _, Nat.zero_add _, p1⟩, ?_⟩
  rintro i n H' ⟨ρi, hi, acc, accV, xi, npi, hp, ia, la, la1, la2, pi⟩
  cases n with
  | zero => exact pi.elim
  | succ n =>
    have q := rs i ρi hi H' xi
    unfold compL at pi
    split at pi
    · exact pi.elim
    · rename_i e0
      rw [e0] at q
      refine .inl ⟨q, ?_⟩
      have pi : PostG K W (RD K) σ Q ρ1 H1 (finL (acc ++ []) hi) := pi
      rw [List.append_nil] at pi
      unfold finL at pi
      split at pi
      · obtain ⟨y1, y2⟩ := xi.adopt np npi hp ia la
        exact pi _ _ H' y1 y2
      · exact pi.elim
    · rename_i d e0
      rw [e0] at q
      obtain ⟨go, yld⟩ := q
      refine .inr ⟨go, fun H2 => ∃ m', m' < n + 1 ∧ ∃ ρi hi acc accV, Ext K ρ1 H1 hi ρi H2 ∧ p0 ∉ ρi ∧ H2 p0 = some (.lst accV) ∧ IsL K ρi H2 acc accV ∧ mrL acc ≤ hi.cs.length ∧ acc.length ≤ i + 1 ∧ i + 1 + m' = s.fuel h1 ∧ PostG K W (RD K) σ Q ρ1 H1 (fXA (s.fuel h1) acc (compL t tst elt s (wipeE env own) m' (i + 1) hi)), fun H2 w => w, fun x H'' y => ?_⟩
      obtain ⟨e1, rd⟩ := yld x H'' y
      subst e1
      split at pi
      · exact pi.elim
      · rename_i en1 e2
        have rli := rl1.ext xi
        have rlw : Rel K ρi (wipeE env own) hi (wipe σ own) H'' := ⟨EnvIs.wipe hj rli.eis own, rli.heap, rli.wf, rli.ewf.wipe own⟩
        refine ok ρi _ en1 hi (wipe σ own) H'' d x _ rlw rd e2 fun σ3 r3 w3 => ?_
        have ww : wipe σ3 own = wipe σ own := by
          rw [w3 own ho]
          apply List.ext_getElem?
          intro j
          rw [wipe_get, wipe_get, wipe_length]
          split <;> rfl
        refine ⟨ww, ρi, en1, hi, r3, ?_⟩
        cases et : tst en1 hi with
        | stuck => rw [et] at pi; exact pi.elim
        | exc c h2 =>
          rw [et] at pi
          have pi : PostG K W (RD K) σ Q ρ1 H1 (if s.fuel h1 ≤ 16777216 then .exc c h2 else .stuck) := pi
          split at pi
          · exact fun ρ' H' x' => pi ρ' H' (xi.trans x')
          · exact pi.elim
        | ok b h2 =>
          rw [et] at pi
          intro ρ4 b4 H4 x4 rb
          have eb : b = b4 := rb
          subst eb
          have np4 : p0 ∉ ρ4 := fun z => by have := x4.fresh p0 z npi; rw [hp] at this; cases this
          have hp4 := x4.frame p0 _ npi hp
          have ia4 := x4.isL (by rw [xi.rel.len]; exact la) ia
          cases b with
          | false =>
            refine iteF ?_
            have l4 := x4.le
            rw [xi.rel.len] at l4
            have l5 := xi.le
            have x5 := (xi.trans x4).cut (n := max hi.cs.length h2.lim) (by omega) (by omega)
            have wf := x4.wf.le
            refine ⟨n, Nat.lt_succ_self n, ρ4.take (max hi.cs.length h2.lim), h2.cut (max hi.cs.length h2.lim), acc, accV, x5, fun z => np4 (List.mem_of_mem_take z), hp4, IsL.cutR (by omega) ia4, ?_, by omega, by omega, pi⟩
            show mrL acc ≤ (h2.cs.take _).length
            rw [List.length_take]; omega
          | true =>
            refine iteT ?_
            have rl4 := r3.ext x4
            refine ⟨ρ4, en1, h2, rl4, ?_⟩
            dsimp only [Res.bind] at pi
            cases ee : elt en1 h2 with
            | stuck => rw [ee] at pi; exact pi.elim
            | exc c h3 =>
              rw [ee] at pi
              have pi : PostG K W (RD K) σ Q ρ1 H1 (if s.fuel h1 ≤ 16777216 then .exc c h3 else .stuck) := pi
              split at pi
              · exact fun ρ' H' x' => pi ρ' H' ((xi.trans x4).trans x')
              · exact pi.elim
            | ok v h3 =>
              rw [ee] at pi
              intro ρ5 y5 H5 x5 r5
              have np5 : p0 ∉ ρ5 := fun z => by have := x5.fresh p0 z np4; rw [hp4] at this; cases this
              have hp5 := x5.frame p0 _ np4 hp4
              have l4 := x4.le
              rw [xi.rel.len] at l4
              have l5 := x5.le
              rw [rl4.len] at l5
              have ia5 := x5.isL (by rw [rl4.len]; omega) ia4
              have wf5 := x5.wf.le
              have lx := xi.le
              have r52 := r5.2
              have xc := ((xi.trans x4).trans x5).cut (n := max hi.cs.length (max h3.lim v.mr)) (by omega) (by omega)
              have pi : PostG K W (RD K) σ Q ρ1 H1 (fXA (s.fuel h1) acc ((compL t tst elt s (wipeE env own) n (i + 1) (h3.cut (max hi.cs.length (max h3.lim v.mr)))).bind fun vs h3 => .ok (v :: vs) h3)) := pi
              have hz : acc.length < 16777216 ∧ PostG K W (RD K) σ Q ρ1 H1 (fXA (s.fuel h1) (acc ++ [v]) (compL t tst elt s (wipeE env own) n (i + 1) (h3.cut (max hi.cs.length (max h3.lim v.mr))))) := by
                cases ec : compL t tst elt s (wipeE env own) n (i + 1) (h3.cut (max hi.cs.length (max h3.lim v.mr))) with
                | stuck => rw [ec] at pi; exact pi.elim
                | exc c h6 =>
                  rw [ec] at pi
                  have pi : PostG K W (RD K) σ Q ρ1 H1 (if s.fuel h1 ≤ 16777216 then .exc c h6 else .stuck) := pi
                  split at pi
                  · rename_i hN
                    refine ⟨by omega, ?_⟩
                    show PostG K W (RD K) σ Q ρ1 H1 (if s.fuel h1 ≤ 16777216 then .exc c h6 else .stuck)
                    rw [if_pos hN]
                    exact pi
                  · exact pi.elim
                | ok vs h6 =>
                  rw [ec] at pi
                  have pi : PostG K W (RD K) σ Q ρ1 H1 (finL (acc ++ v :: vs) h6) := pi
                  refine ⟨?_, ?_⟩
                  · unfold finL at pi
                    split at pi
                    · rename_i hl
                      rw [List.length_append, List.length_cons] at hl
                      omega
                    · exact pi.elim
                  · show PostG K W (RD K) σ Q ρ1 H1 (finL ((acc ++ [v]) ++ vs) h6)
                    rw [List.append_assoc]; exact pi
              refine ⟨accV, hp5, by rw [sizeLine_eq, ia5.length]; exact hz.1, n, Nat.lt_succ_self n, ρ5.take (max hi.cs.length (max h3.lim v.mr)), h3.cut (max hi.cs.length (max h3.lim v.mr)), acc ++ [v], accV ++ [y5],
                Ext.side xc np (fun z => np5 (List.mem_of_mem_take z)) hp5, fun z => np5 (List.mem_of_mem_take z), upd_same, ?_, ?_, by rw [List.length_append]; show acc.length + 1 ≤ i + 1; omega, by omega, hz.2⟩
              · have k : TupsKeep H5 (upd H5 p0 (.lst (accV ++ [y5]))) := keep_old hp5 (fun _ z => by cases z) (fun _ _ z => by cases z)
                refine IsL.mono k (max hi.cs.length (max h3.lim v.mr)) (fun j _ a ha => ha) _ _ ?_ ?_
                · rw [mrL_append]
                  show max (mrL acc) (max v.mr 0) ≤ _
                  omega
                · refine (IsL.cutR (by omega) ia5).append ?_
                  unfold IsL
                  exact ⟨y5, [], rfl, Is.cut (by omega) r5.1, by unfold IsL; rfl⟩
              · show mrL (acc ++ [v]) ≤ (h3.cs.take _).length
                rw [mrL_append, List.length_take]
                show max (mrL acc) (max v.mr 0) ≤ _
                omega
/-- a comprehension's tests -/
abbrev DTs (X : Cx) (W : WJ) (es : List Expr) (m : TM) : Prop := PTs X es (tT (kx X W) W m)
theorem dts_nil : DTs X W [] yesT := ⟨fun pins s σ H Q I ⟨ρ, env, h, rl, p⟩ => pts_nil.run pins s σ H Q I (p ρ true H rl.refl rfl)⟩
theorem dts_one {c : Expr} {t : TM} (h : DT X W c t) : DTs X W [c] t := pts_one h
abbrev BlkCx (X : Cx) (scope : Scope) (s : Shared) (H : Hp) (C : Addr) (cl : List (Str × Addr)) (fp : List Addr) : Cx := X.blk s H scope (compEnvC scope cl C X.env) fp
theorem de_comp {w : WX} {elt tg iter : Expr} {ifs : List Expr} {scope : Scope} {own : List (Str × Nat)} {pos : Pos} {m : IM} {t : Tgt} {g : TG} {tst : TM} {el : EM} (hc : X.calm = true) (hN : X.N.Nodup) (hi : DI X ⟨w, none⟩ tg iter m) (ok : BlkOk X.N X.env.scope scope own)
    (tk : TgOk ⟨X.K, none, (X.prog, X.w)⟩ t g) (ho : ∀ i ∈ t.slots, i ∈ own.map (·.2))
    (hg : ∀ s H C cl fp, PG (BlkCx X scope s H C cl fp) tg g) (ht : ∀ s H C cl fp, DTs (BlkCx X scope s H C cl fp) W0 ifs tst) (he : ∀ s H C cl fp, DE (BlkCx X scope s H C cl fp) W0 elt el) (hs : ∀ x, foldedSetIterable iter X.env x = pure x) :
    DE X ⟨w, none⟩ (.ListComp elt [⟨tg, iter, ifs, 0⟩] scope pos) (compE m (own.map (·.2)) t tst el) :=
  pe_imp (pe_lc hc hN hi ok hg ht he hs) fun σ H Q q => t_comp (K := ⟨X.K, none, (X.prog, X.w)⟩) (fun _ => trivial) tk ho q
theorem ds_setc {w : WX} {i : Nat} {y : Str} {py : Pos} {elt tg iter : Expr} {ifs : List Expr} {scope : Scope} {own : List (Str × Nat)} {pos spos : Pos} {m : IM} {t : Tgt} {g : TG} {tst : TM} {el : EM} (hc : X.calm = true) (hN : X.N.Nodup) (hy : X.N[i]? = some y) (hyl : X.env.scope.names.lookup y = some .local)
    (hsw : swapsWith (.ListComp elt [⟨tg, iter, ifs, 0⟩] scope pos) (some (.Name y py)) spos.line X.env = pure true) (hi : DI X ⟨w, none⟩ tg iter m) (ok : BlkOk X.N X.env.scope scope own)
    (tk : TgOk ⟨X.K, none, (X.prog, X.w)⟩ t g) (ho : ∀ i ∈ t.slots, i ∈ own.map (·.2))
    (hg : ∀ s H C cl fp, PG (BlkCx X scope s H C cl fp) tg g) (ht : ∀ s H C cl fp, DTs (BlkCx X scope s H C cl fp) W0 ifs tst) (he : ∀ s H C cl fp, DE (BlkCx X scope s H C cl fp) W0 elt el) (hs : ∀ x, foldedSetIterable iter X.env x = pure x) :
    DS X ⟨w, none⟩ (.Assign [.Name y py] (.ListComp elt [⟨tg, iter, ifs, 0⟩] scope pos) spos) (asgS (compE m (own.map (·.2)) t tst el) (.one i)) :=
  ps_imp (ps_setLc hc hN hy hyl hsw hi ok hg ht he hs) fun D σ H q => by
    have q2 : tAsg (tE ⟨X.K, none, (X.prog, X.w)⟩ ⟨w, none⟩ (compE m (own.map (·.2)) t tst el)) (gName i) D σ H := t_asg (tg_one (K := ⟨X.K, none, (X.prog, X.w)⟩) i trivial) q
    exact t_comp (K := ⟨X.K, none, (X.prog, X.w)⟩) (fun _ => trivial) tk ho q2

abbrev BlkCxX (X : Cx) (scope : Scope) (s : Shared) (H : Hp) (C : Addr) (cl : List (Str × Addr)) (fp : List Addr) (E : Value → Shared → Prop) : Cx := X.blkX s H scope (compEnvC scope cl C X.env) fp E
theorem de_compX {w : WX} {elt tg iter : Expr} {ifs : List Expr} {scope : Scope} {own : List (Str × Nat)} {pos : Pos} {m : IM} {t : Tgt} {g : TG} {tst : TM} {el : EM} (tw : Takes X w) (hs1 : X.stack = X.env :: X.outer) (hs2 : X.env.frame = some X.env.locals) (hc : X.calm = true) (hN : X.N.Nodup) (hi : DI X ⟨w, none⟩ tg iter m) (ok : BlkOk X.N X.env.scope scope own)
    (tk : TgOk ⟨X.K, none, (X.prog, X.w)⟩ t g) (ho : ∀ i ∈ t.slots, i ∈ own.map (·.2))
    (hg : ∀ s H C cl fp E, PG (BlkCxX X scope s H C cl fp E) tg g) (ht : ∀ σ s H C cl fp E, Takes (BlkCxX X scope s H C cl fp E) (WB ⟨w, none⟩ σ).w → DTs (BlkCxX X scope s H C cl fp E) (WB ⟨w, none⟩ σ) ifs tst)
    (he : ∀ σ s H C cl fp E, Takes (BlkCxX X scope s H C cl fp E) (WB ⟨w, none⟩ σ).w → DE (BlkCxX X scope s H C cl fp E) (WB ⟨w, none⟩ σ) elt el) (hs : ∀ x, foldedSetIterable iter X.env x = pure x) :
    DE X ⟨w, none⟩ (.ListComp elt [⟨tg, iter, ifs, 0⟩] scope pos) (compXE m (own.map (·.2)) t tst el) :=
  pe_imp (pe_lcX (tt := fun σ => tT ⟨X.K, none, (X.prog, X.w)⟩ (WB ⟨w, none⟩ σ) tst) (te := fun σ => tE ⟨X.K, none, (X.prog, X.w)⟩ (WB ⟨w, none⟩ σ) el) tw hs1 hs2 hc hN hi ok hg ht he hs) fun σ H Q q => t_compX (K := ⟨X.K, none, (X.prog, X.w)⟩) (fun _ => trivial) tk ho q
theorem ds_setcX {w : WX} {i : Nat} {y : Str} {py : Pos} {elt tg iter : Expr} {ifs : List Expr} {scope : Scope} {own : List (Str × Nat)} {pos spos : Pos} {m : IM} {t : Tgt} {g : TG} {tst : TM} {el : EM} (tw : Takes X w) (hs1 : X.stack = X.env :: X.outer) (hs2 : X.env.frame = some X.env.locals) (hc : X.calm = true) (hN : X.N.Nodup) (hy : X.N[i]? = some y) (hyl : X.env.scope.names.lookup y = some .local)
    (hsw : swapsWith (.ListComp elt [⟨tg, iter, ifs, 0⟩] scope pos) (some (.Name y py)) spos.line X.env = pure true) (hi : DI X ⟨w, none⟩ tg iter m) (ok : BlkOk X.N X.env.scope scope own)
    (tk : TgOk ⟨X.K, none, (X.prog, X.w)⟩ t g) (ho : ∀ i ∈ t.slots, i ∈ own.map (·.2))
    (hg : ∀ s H C cl fp E, PG (BlkCxX X scope s H C cl fp E) tg g) (ht : ∀ σ s H C cl fp E, Takes (BlkCxX X scope s H C cl fp E) (WB ⟨w, none⟩ σ).w → DTs (BlkCxX X scope s H C cl fp E) (WB ⟨w, none⟩ σ) ifs tst)
    (he : ∀ σ s H C cl fp E, Takes (BlkCxX X scope s H C cl fp E) (WB ⟨w, none⟩ σ).w → DE (BlkCxX X scope s H C cl fp E) (WB ⟨w, none⟩ σ) elt el) (hs : ∀ x, foldedSetIterable iter X.env x = pure x) :
    DS X ⟨w, none⟩ (.Assign [.Name y py] (.ListComp elt [⟨tg, iter, ifs, 0⟩] scope pos) spos) (asgS (compXE m (own.map (·.2)) t tst el) (.one i)) :=
  ps_imp (ps_setLcX (tt := fun σ => tT ⟨X.K, none, (X.prog, X.w)⟩ (WB ⟨w, none⟩ σ) tst) (te := fun σ => tE ⟨X.K, none, (X.prog, X.w)⟩ (WB ⟨w, none⟩ σ) el) tw hs1 hs2 hc hN hy hyl hsw hi ok hg ht he hs) fun D σ H q => by
    have q2 : tAsg (tE ⟨X.K, none, (X.prog, X.w)⟩ ⟨w, none⟩ (compXE m (own.map (·.2)) t tst el)) (gName i) D σ H := t_asg (tg_one (K := ⟨X.K, none, (X.prog, X.w)⟩) i trivial) q
    exact t_compX (K := ⟨X.K, none, (X.prog, X.w)⟩) (fun _ => trivial) tk ho q2

/-! ### raise -/
def raiseS (c : Str) : SM := fun e h => .exc c e h
theorem ds_raise {x m : Str} {j : Nat} {p p2 pos pos2 : Pos} (hc : X.calm = true) (tk : Takes X W.w) (q : PySem.W.excIn X.K (He.ga X.K x) He.veBase "ValueError.__new__" = true) (gC : X.mg x = some (.ref (He.ga X.K x))) (kC : PySem.W.keepIn X.K (.ref (He.ga X.K x)) = true) (r : Raises X (.ref (He.ga X.K x))) (hg : Gl X x)
    (hdb : (x == ("__debug__" : Str)) = false) : DS X W (.Raise (some (.Call (.Name x p) [.Constant (.str m) j p2] [] pos)) none pos2) (raiseS x) :=
  ps_imp (ps_raise hc tk (pmk_own PySem.F.excBase_ValueError q gC kC r hg hdb)) fun D σ H ⟨ρ, env, h, rl, p⟩ => p ρ σ H rl.refl rl.eis rl.ewf

def raise1S (c : Str) (m : EM) : SM := fun e h => (m e h).bindS e fun _ h1 => .exc c e h1
theorem ds_raise1 {x : Str} {e : Expr} {m : EM} {p pos pos2 : Pos} (hc : X.calm = true) (tk : Takes X W.w) (q : PySem.W.excIn X.K (He.ga X.K x) He.veBase "ValueError.__new__" = true) (gC : X.mg x = some (.ref (He.ga X.K x))) (kC : PySem.W.keepIn X.K (.ref (He.ga X.K x)) = true) (r : Raises X (.ref (He.ga X.K x))) (hg : Gl X x)
    (hdb : (x == ("__debug__" : Str)) = false) (he : DE X W e m) (hs : isStar e = false) : DS X W (.Raise (some (.Call (.Name x p) [e] [] pos)) none pos2) (raise1S x m) :=
  ps_imp (ps_raise hc tk (SkE.pmk_own1 PySem.F.excBase_ValueError q gC kC r hg he (star_no hs [] _) hdb)) fun D σ H ⟨ρ, env, h, rl, p⟩ => by
    refine tG_mono (PostS.bind (R := RD (kx X W)) rl p) fun b H1 ⟨ρ1, h1, a1, x1, ra1, p1⟩ => ?_
    have rl1 := rl.ext x1
    exact p1 ρ1 σ H1 x1.at.refl rl1.eis rl1.ewf
/-! ### try -/
def unb (o : Option Nat) : Out → Out
  | .nxt e h => .nxt (match o with | some i => e.set i none | none => e) h
  | .brk e h => .brk (match o with | some i => e.set i none | none => e) h
  | .cnt e h => .cnt (match o with | some i => e.set i none | none => e) h
  | .ret d h => .ret d h
  | .exc _ _ _ => .stuck
  | .stuck => .stuck
/-- sub c: does the clause take an error of the class c; suite c: what it does -/
def tryS (b : SM) (o : Option Nat) (sub : Str → Option Bool) (suite : Str → SM) : SM := fun e h => match b e h with
  | .exc c e1 h1 => (match sub c with
    | some true => (match o with
      | some i => if i < e1.length then unb o (suite c (e1.set i none) h1) else .stuck
      | none => unb o (suite c e1 h1))
    | some false => .exc c e1 h1
    | none => .stuck)
  | .nxt e1 h1 => .nxt e1 h1
  | .ret d h1 => .ret d h1
  | .brk e1 h1 => .brk e1 h1
  | .cnt e1 h1 => .cnt e1 h1
  | .stuck => .stuck
theorem EnvIs.unset {K K' : KX} {ρ : List Addr} {H : Hp} {env : Env} {σ : L2.St} (hk : ∀ ρ H d v, Is K ρ H d v → Is K' ρ H d v) (hj : ∀ σ, K'.J σ) (h : EnvIs K ρ H env σ) : EnvIs K' ρ H env σ :=
  ⟨h.len, (fun i d e => let ⟨v, e1, e2⟩ := h.at_ i d e; ⟨v, e1, hk _ _ _ _ e2⟩), hj σ⟩
mutual
theorem Is.hx {F : PySem.W.Frag} {pw : Program × World} {a b : Option (Nat × Addr)} {ρ : List Addr} {H : Hp} : ∀ (d : D) (v : V), Is ⟨F, a, pw⟩ ρ H d v → Is ⟨F, b, pw⟩ ρ H d v
  | .non, v, h => by unfold Is at h ⊢; exact h
  | .bl _, v, h => by unfold Is at h ⊢; exact h
  | .int _, v, h => by unfold Is at h ⊢; exact h
  | .str _, v, h => by unfold Is at h ⊢; exact h
  | .ty _, v, h => by unfold Is at h ⊢; exact h
  | .glb _, v, h => by unfold Is at h ⊢; exact h
  | .ref _, v, h => by unfold Is at h ⊢; exact h
  | .tup ds, v, h => by
    unfold Is at h ⊢
    obtain ⟨a, xs, e, s, r⟩ := h
    exact ⟨a, xs, e, s, IsL.hx ds xs r⟩
  | .frl ds, v, h => by
    unfold Is at h ⊢
    obtain ⟨a, xs, e, s, r⟩ := h
    exact ⟨a, xs, e, s, IsL.hx ds xs r⟩
theorem IsL.hx {F : PySem.W.Frag} {pw : Program × World} {a b : Option (Nat × Addr)} {ρ : List Addr} {H : Hp} : ∀ (ds : List D) (xs : List V), IsL ⟨F, a, pw⟩ ρ H ds xs → IsL ⟨F, b, pw⟩ ρ H ds xs
  | [], xs, h => by unfold IsL at h ⊢; exact h
  | d :: ds, xs, h => by
    unfold IsL at h ⊢
    obtain ⟨x, r, e, h1, h2⟩ := h
    exact ⟨x, r, e, Is.hx d x h1, IsL.hx ds r h2⟩
end
theorem IsF.hx {F : PySem.W.Frag} {pw : Program × World} {a b : Option (Nat × Addr)} {ρ : List Addr} {H : Hp} : ∀ (ds : List (Str × D)) (xs : List (Str × V)), IsF ⟨F, a, pw⟩ ρ H ds xs → IsF ⟨F, b, pw⟩ ρ H ds xs
  | [], xs, h => by unfold IsF at h ⊢; exact h
  | d :: ds, xs, h => by
    unfold IsF at h ⊢
    obtain ⟨x, r, e, h1, h2⟩ := h
    exact ⟨x, r, e, Is.hx d.2 x h1, IsF.hx ds r h2⟩
theorem IsK.hx {F : PySem.W.Frag} {pw : Program × World} {a b : Option (Nat × Addr)} {ρ : List Addr} {H : Hp} : ∀ (ds : List (L2.Key × D)) (xs : List (L2.Key × V)), IsK ⟨F, a, pw⟩ ρ H ds xs → IsK ⟨F, b, pw⟩ ρ H ds xs
  | [], xs, h => by unfold IsK at h ⊢; exact h
  | d :: ds, xs, h => by
    unfold IsK at h ⊢
    obtain ⟨x, r, e, h1, h2⟩ := h
    exact ⟨x, r, e, Is.hx d.2 x h1, IsK.hx ds r h2⟩
theorem IsN.hx {F : PySem.W.Frag} {pw : Program × World} {a b : Option (Nat × Addr)} {ρ : List Addr} {H : Hp} : ∀ (ds : List (NestedKey × D)) (xs : List NE), IsN ⟨F, a, pw⟩ ρ H ds xs → IsN ⟨F, b, pw⟩ ρ H ds xs
  | [], xs, h => by unfold IsN at h ⊢; exact h
  | d :: ds, xs, h => by
    unfold IsN at h ⊢
    obtain ⟨q, x, r, e, h1, h2⟩ := h
    exact ⟨q, x, r, e, Is.hx d.2 x h1, IsN.hx ds r h2⟩
theorem CellIs.hx {F : PySem.W.Frag} {pw : Program × World} {a b : Option (Nat × Addr)} {ρ : List Addr} {H : Hp} {p : Addr} {c : Cell} (h : CellIs ⟨F, a, pw⟩ ρ H p c) : CellIs ⟨F, b, pw⟩ ρ H p c := by
  cases c with
  | lst ds => obtain ⟨xs, h1, h2⟩ := h; exact ⟨xs, h1, IsL.hx ds xs h2⟩
  | inst c fs => obtain ⟨dx, vs, h1, h2⟩ := h; exact ⟨dx, vs, h1, IsF.hx fs vs h2⟩
  | dict kvs =>
    obtain ⟨xs, e1, e2⟩ := h
    exact ⟨xs, e1, IsK.hx _ _ e2⟩
  | dN kvs =>
    obtain ⟨xs, e1, e2, e3⟩ := h
    exact ⟨xs, e1, e2, IsN.hx _ _ e3⟩
theorem HRel.hx {F : PySem.W.Frag} {pw : Program × World} {a b : Option (Nat × Addr)} {ρ : List Addr} {H : Hp} {cs : List Cell} (h : HRel ⟨F, a, pw⟩ ρ H cs) : HRel ⟨F, b, pw⟩ ρ H cs := ⟨h.len, h.nd, fun n c p e1 e2 => (h.at_ n c p e1 e2).hx⟩
theorem Ext.hx {F : PySem.W.Frag} {pw : Program × World} {a b : Option (Nat × Addr)} {ρ ρ1 : List Addr} {H H1 : Hp} {h1 : PH} (x : Ext ⟨F, a, pw⟩ ρ H h1 ρ1 H1) : Ext ⟨F, b, pw⟩ ρ H h1 ρ1 H1 := ⟨x.pre, x.fresh, x.frame, x.kept, x.rel.hx, x.wf⟩
theorem RD.hx {F : PySem.W.Frag} {pw : Program × World} {a b : Option (Nat × Addr)} {ρ : List Addr} {H : Hp} {n : Nat} {d : D} {v : V} (r : RD ⟨F, a, pw⟩ ρ H n d v) : RD ⟨F, b, pw⟩ ρ H n d v := ⟨Is.hx d v r.1, r.2⟩
theorem EnvWf.unset {env : Env} {n i : Nat} (w : EnvWf env n) : EnvWf (env.set i none) n := fun j d e => by
  by_cases hv : i = j
  · subst hv
    by_cases hl : i < env.length
    · rw [List.getElem?_set_self hl] at e; cases e
    · rw [List.getElem?_eq_none (by rw [List.length_set]; omega)] at e; cases e
  · rw [List.getElem?_set_ne hv] at e
    exact w j d e
/-- into the suite: the slot i holds the error -/
theorem EnvIs.into {F : PySem.W.Frag} {pw : Program × World} {ρ : List Addr} {H : Hp} {env : Env} {σ : L2.St} {i : Nat} {a : Addr} (hi : i < σ.length) (h : EnvIs ⟨F, none, pw⟩ ρ H env σ) : EnvIs ⟨F, some (i, a), pw⟩ ρ H (env.set i none) (σ.set i (some (.ref a))) := by
  refine ⟨by rw [List.length_set, List.length_set]; exact h.len, fun j d e => ?_, ?_⟩
  · by_cases hv : i = j
    · subst hv
      rw [List.getElem?_set_self (by rw [h.len]; exact hi)] at e; cases e
    · rw [List.getElem?_set_ne hv] at e ⊢
      obtain ⟨v, e1, e2⟩ := h.at_ j d e
      exact ⟨v, e1, Is.hx d v e2⟩
  · show (σ.set i (some (V.ref a)))[i]? = some (some (V.ref a))
    rw [List.getElem?_set_self hi]
/-- out of it -/
theorem EnvIs.outof {F : PySem.W.Frag} {pw : Program × World} {ρ : List Addr} {H : Hp} {env : Env} {σ : L2.St} {i : Nat} {a : Addr} (h : EnvIs ⟨F, some (i, a), pw⟩ ρ H env σ) : EnvIs ⟨F, none, pw⟩ ρ H (env.set i none) (σ.set i none) := by
  refine ⟨by rw [List.length_set, List.length_set]; exact h.len, fun j d e => ?_, trivial⟩
  by_cases hv : i = j
  · subst hv
    by_cases hl : i < env.length
    · rw [List.getElem?_set_self hl] at e; cases e
    · rw [List.getElem?_eq_none (by rw [List.length_set]; omega)] at e; cases e
  · rw [List.getElem?_set_ne hv] at e ⊢
    obtain ⟨v, e1, e2⟩ := h.at_ j d e
    exact ⟨v, e1, Is.hx d v e2⟩
/-- try .. except x as n (n in slot i) -/
theorem ds_try_as {w : WX} {x n : Str} {i : Nat} {body suite : List Stmt} {b₀ : Stmt} {np pos pos' : Pos} {b : SM} {sub : Str → Option Bool} {su : Str → SM} (hs : X.stack = X.env :: X.outer) (hf : X.env.frame = some X.env.locals) (hN : X.N.Nodup) (hi : X.N[i]? = some n) (hln : X.env.kindOf n = some .local)
    (hc : Names X x (.ref (He.ga X.K x))) (tk : Takes X w) (hsub : ∀ c k, sub c = some k → PySem.W.exmOne X.K (.ref (He.ga X.K c)) (.ref (He.ga X.K x)) = some k)
    (hb : ∀ (w' : WX) (pn : List (Addr × Obj)) (xe : Value → Shared → Prop), Takes (X.tr pn xe) w' → PassesOwn (model X.prog X.w) X.A X.env xe → DSs (X.tr pn xe) ⟨w', none⟩ body b)
    (hsu : ∀ (c : Str) (a : Addr) (oe : Obj) (pn : List (Addr × Obj)), Zc (.ref (He.ga X.K c)) none oe → (∃ vs, oe.data = .fields vs) → sub c = some true → DSs (X.suite a ((a, oe) :: pn)) ⟨fun _ _ _ _ => False, some (i, a)⟩ (b₀ :: suite) (su c)) :
    DS X ⟨w, none⟩ (.Try body [.ExceptHandler (some (.Name x np)) (some n) (b₀ :: suite) pos'] [] [] pos) (tryS b (some i) sub su) := by
  let ts : Addr → Value → Option Addr → TS := fun a cls d D σ H => ∃ c, cls = .ref (He.ga X.K c) ∧ d = none ∧ sub c = some true ∧ tS ⟨X.K, some (i, a), (X.prog, X.w)⟩ ⟨fun _ _ _ _ => False, some (i, a)⟩ (su c) D σ H
  refine ps_imp (ps_try_as (tb := fun W' => tS ⟨X.K, none, (X.prog, X.w)⟩ ⟨W', none⟩ b) (ts := ts) hs hf hN hi hln hc tk hb (fun a oe cls d pn hz hd => ⟨fun pins s σ H D I ⟨c, ec, ed, ht, q⟩ => ?_⟩)) fun D σ H ⟨ρ, env, h, rl, p⟩ => ?_
  · subst ec
    subst ed
    exact (hsu c a oe pn hz hd ht).run pins s σ H D I q
  · refine ⟨ρ, env, h, rl, ?_⟩
    unfold tryS at p
    cases eb : b env h with
    | stuck => rw [eb] at p; exact p
    | nxt e1 h1 => rw [eb] at p; exact p
    | ret e1 h1 => rw [eb] at p; exact p
    | brk e1 h1 => rw [eb] at p; exact p
    | cnt e1 h1 => rw [eb] at p; exact p
    | exc c e1 h1 =>
      rw [eb] at p
      intro ρ1 σ1 H1 x1 ei1 w1
      dsimp only at p
      cases es : sub c with
      | none => rw [es] at p; exact p.elim
      | some k =>
        rw [es] at p
        refine ⟨k, hsub c k es, fun ek a na => ?_, fun ek => ?_⟩
        · subst ek
          dsimp only at p
          split at p
          case isFalse => exact p.elim
          rename_i hl
          refine ⟨c, rfl, rfl, es, ρ1, e1.set i none, h1, ⟨EnvIs.into (by rw [← ei1.len]; exact hl) ei1, x1.rel.hx, x1.wf, w1.unset⟩, ?_⟩
          cases eu : su c (e1.set i none) h1 with
          | stuck => rw [eu] at p; exact p
          | exc _ _ _ => rw [eu] at p; exact p.elim
          | nxt e2 h2 =>
            rw [eu] at p
            exact fun ρ2 σ2 H2 x2 ei2 w2 => p ρ2 _ H2 (x1.trans x2.hx) ei2.outof w2.unset
          | brk e2 h2 =>
            rw [eu] at p
            exact fun ρ2 σ2 H2 x2 ei2 w2 => p ρ2 _ H2 (x1.trans x2.hx) ei2.outof w2.unset
          | cnt e2 h2 =>
            rw [eu] at p
            exact fun ρ2 σ2 H2 x2 ei2 w2 => p ρ2 _ H2 (x1.trans x2.hx) ei2.outof w2.unset
          | ret d2 h2 =>
            rw [eu] at p
            exact fun ρ2 v2 H2 x2 r2 => p ρ2 v2 H2 (x1.trans x2.hx) r2.hx
        · subst ek
          exact p ρ1 σ1 H1 x1 ei1 w1
/-- try .. except x: -/
theorem ds_try {w : WX} {x : Str} {body suite : List Stmt} {b₀ : Stmt} {np pos pos' : Pos} {b : SM} {sub : Str → Option Bool} {su : Str → SM} (hs : X.stack = X.env :: X.outer) (hf : X.env.frame = some X.env.locals)
    (hc : Names X x (.ref (He.ga X.K x))) (tk : Takes X w) (hsub : ∀ c k, sub c = some k → PySem.W.exmOne X.K (.ref (He.ga X.K c)) (.ref (He.ga X.K x)) = some k)
    (hb : ∀ (w' : WX) (pn : List (Addr × Obj)) (xe : Value → Shared → Prop), Takes (X.tr pn xe) w' → PassesOwn (model X.prog X.w) X.A X.env xe → DSs (X.tr pn xe) ⟨w', none⟩ body b)
    (hsu : ∀ (c : Str) (a : Addr) (oe : Obj) (pn : List (Addr × Obj)), Zc (.ref (He.ga X.K c)) none oe → (∃ vs, oe.data = .fields vs) → sub c = some true → DSs (X.suite a ((a, oe) :: pn)) ⟨fun _ _ _ _ => False, none⟩ (b₀ :: suite) (su c)) :
    DS X ⟨w, none⟩ (.Try body [.ExceptHandler (some (.Name x np)) none (b₀ :: suite) pos'] [] [] pos) (tryS b none sub su) := by
  let ts : Addr → Value → Option Addr → TS := fun a cls d D σ H => ∃ c, cls = .ref (He.ga X.K c) ∧ d = none ∧ sub c = some true ∧ tS ⟨X.K, none, (X.prog, X.w)⟩ ⟨fun _ _ _ _ => False, none⟩ (su c) D σ H
  refine ps_imp (ps_try_only (tb := fun W' => tS ⟨X.K, none, (X.prog, X.w)⟩ ⟨W', none⟩ b) (ts := ts) hs hf hc tk hb (fun a oe cls d pn hz hd => ⟨fun pins s σ H D I ⟨c, ec, ed, ht, q⟩ => ?_⟩)) fun D σ H ⟨ρ, env, h, rl, p⟩ => ?_
  · subst ec
    subst ed
    exact (hsu c a oe pn hz hd ht).run pins s σ H D I q
  · refine ⟨ρ, env, h, rl, ?_⟩
    unfold tryS at p
    cases eb : b env h with
    | stuck => rw [eb] at p; exact p
    | nxt e1 h1 => rw [eb] at p; exact p
    | ret e1 h1 => rw [eb] at p; exact p
    | brk e1 h1 => rw [eb] at p; exact p
    | cnt e1 h1 => rw [eb] at p; exact p
    | exc c e1 h1 =>
      rw [eb] at p
      intro ρ1 σ1 H1 x1 ei1 w1
      dsimp only at p
      cases es : sub c with
      | none => rw [es] at p; exact p.elim
      | some k =>
        rw [es] at p
        refine ⟨k, hsub c k es, fun ek a na => ?_, fun ek => ?_⟩
        · subst ek
          refine ⟨c, rfl, rfl, es, ρ1, e1, h1, ⟨ei1, x1.rel, x1.wf, w1⟩, ?_⟩
          dsimp only at p
          cases eu : su c e1 h1 with
          | stuck => rw [eu] at p; exact p
          | exc _ _ _ => rw [eu] at p; exact p.elim
          | nxt e2 h2 =>
            rw [eu] at p
            exact fun ρ2 σ2 H2 x2 ei2 w2 => p ρ2 _ H2 (x1.trans x2) ei2 w2
          | brk e2 h2 =>
            rw [eu] at p
            exact fun ρ2 σ2 H2 x2 ei2 w2 => p ρ2 _ H2 (x1.trans x2) ei2 w2
          | cnt e2 h2 =>
            rw [eu] at p
            exact fun ρ2 σ2 H2 x2 ei2 w2 => p ρ2 _ H2 (x1.trans x2) ei2 w2
          | ret d2 h2 =>
            rw [eu] at p
            exact fun ρ2 v2 H2 x2 r2 => p ρ2 v2 H2 (x1.trans x2) r2
        · subst ek
          exact p ρ1 σ1 H1 x1 ei1 w1
end
end Dy

/-! Instances of the text's classes: fields, methods, making. -/
namespace Dy
open PySem PySem.Spec PyProof.Rows L2
theorem At.ins {K : KX} {ρ : List Addr} {h : PH} {H : Hp} (x : At K ρ h H) {n : Nat} {c : Str} {fs : List (Str × D)} (e : h.cs[n]? = some (.inst c fs)) {v : V} (i : Is K ρ H (.ref n) v) :
    ∃ a dx vs, v = .ref a ∧ ρ[n]? = some a ∧ H a = some (.ins (He.ga K c) dx vs) ∧ IsF K ρ H fs vs ∧ mrF fs ≤ h.cs.length := by
  obtain ⟨a, ha, rfl⟩ := i.ref
  obtain ⟨dx, vs, h1, h2⟩ := x.heap.at_ n _ a e ha
  have l : mrF fs ≤ max n h.lim := x.wf.at_ n _ e
  have : n < h.cs.length := (List.getElem?_eq_some_iff.mp e).1
  have := x.wf.le
  exact ⟨a, dx, vs, rfl, ha, h1, h2, by omega⟩
def fGet : List (Str × D) → Str → Option D
  | [], _ => none
  | p :: r, f => if p.1 = f then some p.2 else fGet r f
def fPut (f : Str) (d : D) : List (Str × D) → List (Str × D)
  | [] => [(f, d)]
  | p :: r => if p.1 = f then (p.1, d) :: r else p :: fPut f d r
theorem lookup_pos {g f : Str} {x : V} {r : List (Str × V)} (h : g = f) : ((g, x) :: r).lookup f = some x := by
  subst h
  rw [List.lookup_cons, beq_self_eq_true]
theorem lookup_neg {g f : Str} {x : V} {r : List (Str × V)} (h : ¬ g = f) : ((g, x) :: r).lookup f = r.lookup f := by
  rw [List.lookup_cons]
  have : (f == g) = false := by
    cases q : f == g with
    | false => rfl
    | true => exact absurd (eq_of_beq q).symm h
  rw [this]
theorem fGet_is {K : KX} {ρ : List Addr} {H : Hp} {f : Str} : ∀ {fs : List (Str × D)} {vs : List (Str × V)}, IsF K ρ H fs vs → (∀ d, fGet fs f = some d → ∃ v, vs.lookup f = some v ∧ Is K ρ H d v ∧ d.mr ≤ mrF fs) ∧ (fGet fs f = none → vs.lookup f = none)
  | [], vs, h => by
    unfold IsF at h
    subst h
    exact ⟨fun d h => (by cases h), fun _ => rfl⟩
  | p :: r, vs, h => by
    unfold IsF at h
    obtain ⟨v, s, rfl, i1, i2⟩ := h
    obtain ⟨n1, n2⟩ := fGet_is (f := f) i2
    by_cases c : p.1 = f
    · refine ⟨fun d q => ?_, fun q => ?_⟩
      · have q : (if p.1 = f then some p.2 else fGet r f) = some d := q
        rw [if_pos c] at q
        cases q
        exact ⟨v, lookup_pos c, i1, by unfold mrF; omega⟩
      · have q : (if p.1 = f then some p.2 else fGet r f) = none := q
        rw [if_pos c] at q; cases q
    · have g : fGet (p :: r) f = fGet r f := if_neg c
      rw [g, lookup_neg c]
      refine ⟨fun d q => ?_, n2⟩
      obtain ⟨v', a1, a2, a3⟩ := n1 d q
      exact ⟨v', a1, a2, by unfold mrF; omega⟩
theorem fPut_is {K : KX} {ρ : List Addr} {H : Hp} {f : Str} {d : D} {v : V} (i : Is K ρ H d v) : ∀ {fs : List (Str × D)} {vs : List (Str × V)}, IsF K ρ H fs vs → IsF K ρ H (fPut f d fs) (putF f v vs)
  | [], vs, h => by
    unfold IsF at h
    subst h
    show IsF K ρ H [(f, d)] [(f, v)]
    unfold IsF
    exact ⟨v, [], rfl, i, by unfold IsF; rfl⟩
  | p :: r, vs, h => by
    unfold IsF at h
    obtain ⟨w, s, rfl, i1, i2⟩ := h
    show IsF K ρ H (if p.1 = f then (p.1, d) :: r else p :: fPut f d r) (if p.1 = f then (p.1, v) :: s else (p.1, w) :: putF f v s)
    by_cases c : p.1 = f
    · rw [if_pos c, if_pos c]
      unfold IsF
      exact ⟨v, s, rfl, i, i2⟩
    · rw [if_neg c, if_neg c]
      unfold IsF
      exact ⟨w, _, rfl, i1, fPut_is i i2⟩
theorem isF_len {K : KX} {ρ : List Addr} {H : Hp} : ∀ {fs : List (Str × D)} {vs : List (Str × V)}, IsF K ρ H fs vs → vs.length = fs.length
  | [], vs, h => by unfold IsF at h; subst h; rfl
  | p :: r, vs, h => by
    unfold IsF at h
    obtain ⟨w, s, rfl, i1, i2⟩ := h
    rw [List.length_cons, List.length_cons, isF_len i2]
theorem mrF_put {f : Str} {d : D} : ∀ {fs : List (Str × D)}, mrF (fPut f d fs) ≤ max (mrF fs) d.mr
  | [] => by show max d.mr 0 ≤ max 0 d.mr; omega
  | p :: r => by
    have := mrF_put (f := f) (d := d) (fs := r)
    show mrF (if p.1 = f then (p.1, d) :: r else p :: fPut f d r) ≤ max (max p.2.mr (mrF r)) d.mr
    by_cases c : p.1 = f
    · rw [if_pos c]; show max d.mr (mrF r) ≤ _; omega
    · rw [if_neg c]; show max p.2.mr (mrF (fPut f d r)) ≤ _; omega
section
variable {X : Cx} {W : WJ}
/-! ### o.f -/
def TabFld (K : PySem.W.Frag) (T : Str → Str → Bool) : Prop := ∀ c f, T c f = true → Cls K (He.ga K c) ∧ NoAttr K (He.ga K c) f
def fldF (T : Str → Str → Bool) (f : Str) (d : D) (h : PH) : Res D := match d with
  | .ref n => (match h.cs[n]? with
    | some (.inst c fs) => if T c f = true then (match fGet fs f with
      | some v => .ok v h
      | none => .stuck) else .stuck
    | _ => .stuck)
  | _ => .stuck
theorem de_fld {T : Str → Str → Bool} (hT : TabFld X.K T) {o : Expr} {f : Str} {pos : Pos} {mo : EM} (ho : DE X W o mo) (bo : baseOk o = true) : DE X W (.Attribute o f pos) (u1E (fldF T f) mo) :=
  pe_imp (pe_fld ho (baseOk_is bo _ _ _)) fun σ H Q ⟨ρ, env, h, rl, p⟩ => by
    refine tG_mono (PostG.bind (R := RD (kx X W)) rl p) fun b H1 ⟨ρ1, h1, a1, x1, ra1, p1⟩ => ?_
    unfold fldF at p1
    split at p1
    · split at p1
      · rename_i c fs q
        split at p1
        · rename_i t
          split at p1
          · rename_i v e
            obtain ⟨a, dx, vs, rfl, _, h1', i1, l1⟩ := At.ins x1.at q ra1.1
            obtain ⟨v', e1, e2, e3⟩ := (fGet_is i1).1 v e
            exact ⟨a, _, dx, vs, v', rfl, h1', (hT c f t).1, (hT c f t).2, e1, p1 ρ1 v' H1 x1.at.refl ⟨e2, Nat.le_trans e3 l1⟩⟩
          · exact p1.elim
        · exact p1.elim
      · exact p1.elim
    · exact p1.elim
/-! ### o.f = e -/
def setFd (T : Str → Str → Bool) (o : D) (f : Str) (d : D) (h : PH) : Option PH := match o with
  | .ref n => (match h.cs[n]? with
    | some (.inst c fs) => if T c f = true ∧ fs.length < 1000 then some (h.put n (.inst c (fPut f d fs))) else none
    | _ => none)
  | _ => none
def sfldS (T : Str → Str → Bool) (m o : EM) (f : Str) : SM := fun e h => (m e h).bindS e fun d h1 => (o e h1).bindS e fun x h2 => match setFd T x f d h2 with
  | some h3 => .nxt e h3
  | none => .stuck
theorem put_ins {K : KX} {ρ : List Addr} {h : PH} {H : Hp} (x : At K ρ h H) {n : Nat} {a dx : Addr} {c : Str} (ha : ρ[n]? = some a) {ds : List (Str × D)} {xs : List (Str × V)} (i : IsF K ρ H ds xs) (l : mrF ds ≤ h.cs.length) : Ext K ρ H (h.put n (.inst c ds)) ρ (upd H a (.ins (He.ga K c) dx xs)) :=
  Ext.put x.heap x.wf ha l fun H' e k => ⟨dx, xs, e, IsF.mono k ρ.length (fun i _ a ha => ha) ds xs (by rw [x.heap.len]; exact l) i⟩
theorem swaps_fld (e o : Expr) (f : Str) (p : Pos) (l : Nat) (env : PySem.Env) : swapsWith e (some (.Attribute o f p)) l env = pure false := by
  cases e <;> rfl
theorem ds_fld {T : Str → Str → Bool} (hT : TabFld X.K T) {o e : Expr} {f : Str} {pos pos' : Pos} {m mo : EM} (he : DE X W e m) (ho : DE X W o mo) : DS X W (.Assign [.Attribute o f pos'] e pos) (sfldS T m mo f) :=
  ps_imp (ps_fld ho he (swaps_fld e o f pos' pos.line X.env)) fun D σ H ⟨ρ, env, h, rl, p⟩ => by
    refine tG_mono (PostS.bind (R := RD (kx X W)) rl p) fun b H1 ⟨ρ1, h1, a1, x1, ra1, p1⟩ => ?_
    have rl1 := rl.ext x1
    refine tG_mono (PostS.bind (R := RD (kx X W)) rl1 p1) fun b2 H2 ⟨ρ2, h2, a2, x2, ra2, p2⟩ => ?_
    have rl2 := rl1.ext x2
    cases e : setFd T a2 f a1 h2 with
    | none => rw [e] at p2; exact p2.elim
    | some h3 =>
      rw [e] at p2
      unfold setFd at e
      split at e
      · rename_i n
        split at e
        · rename_i c fs q
          split at e
          · rename_i t
            cases e
            obtain ⟨a, dx, vs, rfl, ha, h1', i1, l1⟩ := At.ins x2.at q ra2.1
            have rv := ra1.ext x2 rl1.len
            have x3 := put_ins (c := c) (dx := dx) x2.at ha (fPut_is (f := f) rv.1 i1) (Nat.le_trans mrF_put (Nat.max_le.mpr ⟨l1, rv.2⟩))
            have rl3 := rl2.ext x3
            exact ⟨a, _, dx, vs, rfl, h1', (hT c f t.1).1, (hT c f t.1).2, by rw [isF_len i1]; exact t.2, p2 ρ2 σ _ x3 rl3.eis rl3.ewf⟩
          · cases e
        · cases e
      · cases e
/-! ### o.m(e, ..) -/
/-- a method of a class: it counts its self -/
def TabMth (X : Cx) (T : Str → Str → Option (Nat × Fn)) (k : Nat) : Prop := ∀ c m n f, T c m = some (n, f) → ∃ a fd ps, Cls X.K (He.ga X.K c) ∧ Meth X.K (He.ga X.K c) m a ∧ Binds X.K fd ps [] ∧ FnOk X.prog X.w X.K X.mg X.base (L2.CX X.prog X.w) k a fd ps (spD ⟨X.K, none, (X.prog, X.w)⟩ n f)
def methE (T : Str → Str → Option (Nat × Fn)) (m : Str) (o : EM) (a : AM) : EM := fun e h => (o e h).bind fun d h1 => match d with
  | .ref n => (match h1.cs[n]? with
    | some (.inst c fs) => (match T c m, fGet fs m with
      | some (k, f), none => nA (fun ds => callF k f (.ref n :: ds)) a e h1
      | _, _ => .stuck)
    | _ => .stuck)
  | _ => .stuck
theorem meth_of {o : Expr} {name : Str} {apos pos : Pos} {args : List Expr} {env : PySem.Env} {M : Model} {A : Around} {E : Value → Shared → Prop} {s : Shared} {Q : Value → Shared → Prop}
    (hb : attributeBase o name env (eval o env) = eval o env) (hfew : methodCallForm (args.length + ([] : List Keyword).length) (backTo pos (starEach args env)) (backToKw pos (keywordEach [] env)) = true) (hline : (apos.endLine == pos.line) = true)
    (h : wpAny M A (eval o env) (fun ov s₁ => ∀ pl, wpAny M A (getMethod ov name pl) (fun fx s₂ => wpAny M A (callWith pos fx.1 fx.2 (backTo pos (starEach args env)) []) Q E s₂) E s₁) E s) :
    wpAny M A (eval (.Call (.Attribute o name apos) args [] pos) env) Q E s := by
  rw [arm_eval_Call, hb]
  refine wpAny_bind (wpAny_mono h (fun ov s₁ h₁ => ?_) fun _ _ e => e)
  refine wpAny_bind (wpAny_standAt ?_)
  have hp : methodCallPos true o env apos pos = pure pos := by unfold methodCallPos; simp [hline]
  unfold methodCall
  rw [hfew, hp]
  unfold calleeOf
  refine wpAny_bind (wpAny_holding (wpAny_mono (h₁ _) (fun fx s₂ h₂ => ?_) fun _ _ e => e))
  exact wpAny_bind (wpAny_pure h₂)
theorem t_meth {T : Str → Str → Option (Nat × Fn)} {m : Str} {mo : EM} {ma : AM} {w : WX} {σ : L2.St} {H : Hp} {Q : VK} (t : tE ⟨X.K, none, (X.prog, X.w)⟩ ⟨w, none⟩ (methE T m mo ma) σ H Q) :
    tE ⟨X.K, none, (X.prog, X.w)⟩ ⟨w, none⟩ mo σ H fun x H1 => ∃ a c n f dx vs, x = .ref a ∧ T c m = some (n, f) ∧ H1 a = some (.ins (He.ga X.K c) dx vs) ∧ vs.lookup m = none ∧ tA ⟨X.K, none, (X.prog, X.w)⟩ ⟨w, none⟩ ma σ H1 fun ys H2 => spD ⟨X.K, none, (X.prog, X.w)⟩ n f (.ref a :: ys) H2 Q (WE w σ) := by
  obtain ⟨ρ, env, h, rl, p⟩ := t
  refine tG_mono (PostG.bind (R := RD ⟨X.K, none, (X.prog, X.w)⟩) rl p) fun b H1 ⟨ρ1, h1, a1, x1, ra1, p1⟩ => ?_
  cases a1 with
  | ref n =>
    dsimp only at p1
    split at p1
    · rename_i c fs q
      split at p1
      · rename_i k f e1 e2
        obtain ⟨a, dx, vs, rfl, hp, h1', i1, l1⟩ := At.ins x1.at q ra1.1
        refine ⟨a, c, k, f, dx, vs, rfl, e1, h1', (fGet_is i1).2 e2, ?_⟩
        have rl1 := rl.ext x1
        refine tG_mono (PostG.bind (m := ma) (R := RL ⟨X.K, none, (X.prog, X.w)⟩) rl1 p1) fun ys H2 ⟨ρ2, h2, ds, x2, r2, p2⟩ => ?_
        unfold callF at p2
        split at p2
        · rename_i hl
          have hn : n < h1.cs.length := (List.getElem?_eq_some_iff.mp q).1
          have hl2 := x2.le
          rw [rl1.len] at hl2
          have rr : RL ⟨X.K, none, (X.prog, X.w)⟩ ρ2 H2 h2.cs.length (.ref n :: ds) (.ref a :: ys) := by
            refine ⟨?_, ?_⟩
            · unfold IsL
              refine ⟨.ref a, ys, rfl, ?_, r2.1⟩
              unfold Is
              exact ⟨a, x2.at_ n (by rw [rl1.len]; exact hn) a hp, rfl⟩
            · unfold mrL
              have := r2.2
              show max (n + 1) (mrL ds) ≤ _
              omega
          refine ⟨by rw [← hl, rr.1.length], ρ2, _, h2, x2.at, rr, ?_⟩
          cases e : f (.ref n :: ds) h2 with
          | stuck => rw [e] at p2; exact p2
          | exc c h3 => rw [e] at p2; exact p2
          | ok d h3 => rw [e] at p2; exact p2
        · exact p2.elim
      · exact p1.elim
    · exact p1.elim
  | _ => exact p1.elim
theorem de_meth {T : Str → Str → Option (Nat × Fn)} {k : Nat} {o e : Expr} {es : List Expr} {m : Str} {apos cpos : Pos} {mo : EM} {ma : AM} {w : WX} (hT : TabMth X T k) (hr : Room k X.A) (tk : Takes X w) (ho : DE X ⟨w, none⟩ o mo) (ha : DA X ⟨w, none⟩ (e :: es) ma) (bo : baseOk o = true) (ns : noStars (e :: es) = true) (hl : (apos.endLine == cpos.line) = true) (few : (e :: es).length < 30) :
    DE X ⟨w, none⟩ (.Call (.Attribute o m apos) (e :: es) [] cpos) (methE T m mo ma) := by
  refine ⟨fun pins s σ H Q I h => ?_⟩
  refine meth_of (baseOk_is bo _ _ _) (by show ((backTo cpos (starEach (e :: es) X.env)).all (fun x => !x.1) && true && decide ((e :: es).length + 0 + 0 < 30)) = true; rw [noStars_all ns cpos X.env, decide_eq_true (by simpa using few)]; rfl) hl (thn (ho.run pins s σ H _ I (t_meth h)) fun u s1 ⟨x, H1, I1, rx, a, c, n, f, dx, vs, ex, et, ea, l, q⟩ pl => ?_)
  subst ex
  obtain rfl : u = Value.ref a := rx
  obtain ⟨g, fd, ps, C, M, b, F⟩ := hT c m n f et
  refine getmeth_ok I1 ea C M l ?_
  refine PySem.W.callWith_K (first := [.ref a]) (h₀ := X.base) I1.ok.mod.kin M.kp (thn (ha.run cpos pins s1 σ H1 _ I1 q) fun us s2 ⟨ys, H2, I2, r, q2⟩ => ⟨I2.kIn, ?_⟩) (star_no (noStars_head ns).1 es _) (noStars_any (noStars_head ns).2 cpos _)
  exact run_fnS (us := .ref a :: us) (vs := .ref a :: ys) F hr b (passAt tk σ) I2 (.cons rfl r) q2
theorem de_meth0 {T : Str → Str → Option (Nat × Fn)} {k : Nat} {o : Expr} {m : Str} {apos cpos : Pos} {mo : EM} {w : WX} (hT : TabMth X T k) (hr : Room k X.A) (tk : Takes X w) (ho : DE X ⟨w, none⟩ o mo) (bo : baseOk o = true) (hl : (apos.endLine == cpos.line) = true) :
    DE X ⟨w, none⟩ (.Call (.Attribute o m apos) [] [] cpos) (methE T m mo nilA) := by
  refine ⟨fun pins s σ H Q I h => ?_⟩
  refine meth_of (baseOk_is bo _ _ _) rfl hl (thn (ho.run pins s σ H _ I (t_meth h)) fun u s1 ⟨x, H1, I1, rx, a, c, n, f, dx, vs, ex, et, ea, l, q⟩ pl => ?_)
  subst ex
  obtain rfl : u = Value.ref a := rx
  obtain ⟨g, fd, ps, C, M, b, F⟩ := hT c m n f et
  obtain ⟨ρ, env, h', rl, p⟩ := q
  have p : ∀ ρ' b H', Ext ⟨X.K, none, (X.prog, X.w)⟩ ρ H1 h' ρ' H' → RL ⟨X.K, none, (X.prog, X.w)⟩ ρ' H' h'.cs.length [] b → spD ⟨X.K, none, (X.prog, X.w)⟩ n f (.ref a :: b) H' Q (WE w σ) := p
  have q2 := p ρ [] H1 rl.refl ⟨by unfold IsL; rfl, Nat.zero_le _⟩
  refine getmeth_ok I1 ea C M l ?_
  refine PySem.W.callWith_K0 (first := [.ref a]) I1.kIn M.kp ?_
  exact run_fnS (us := [.ref a]) (vs := [.ref a]) F hr b (passAt tk σ) I1 (.cons rfl .nil) q2
/-! ### C(e, ..) -/
def mkE (c : Str) (n : Nat) (f : Fn) (a : AM) : EM := fun e h => (a e h).bind fun ds h1 => if ds.length + 1 = n then (match f (.ref h1.cs.length :: ds) (h1.push (.inst c [])) with
  | .ok .non h2 => .ok (.ref h1.cs.length) h2
  | .exc c' h2 => .exc c' h2
  | _ => .stuck) else .stuck
theorem run_makeS {CX : CXT} {k : Nat} {C f : Addr} {fd : FuncData} {ps : List Str} {sp : Sp} {E : L2.St → XK} {pins : List (Addr × Obj)} {σ : L2.St} {H : Hp} {s : Shared} {Q : VK} {us : List Value} {vs : List V} (M : Mk X.K C f) (F : FnOk X.prog X.w X.K X.mg X.base CX k f fd ps sp) (hr : Room (k + 1) X.A) (hb : Binds X.K fd ps []) (hx : PassesAt CX X σ (E σ))
    (I : Inv X pins σ H s) (r : Vals vs us) (h : ∀ x dx, H x = none → H dx = none → dx ≠ x → sp (.ref x :: vs) (upd (upd H dx (.own x)) x (.ins C dx [])) (fun v H2 => v = .non ∧ Q (.ref x) H2) (E σ)) :
    wpAny (model X.prog X.w) X.A (call (.ref C) us) (EP X pins σ Q) X.xe s := by
  have hq := h (s.heap.objs.size + 1) s.heap.objs.size (I.hok.fresh (Nat.le_succ _)) (I.hok.fresh (Nat.le_refl _)) (Nat.ne_of_lt (Nat.lt_succ_self _))
  have J := Inv.made (C := C) I
  have r2 : Vals (V.ref (s.heap.objs.size + 1) :: vs) (Value.ref (s.heap.objs.size + 1) :: us) := .cons rfl r
  have hl : (Value.ref (s.heap.objs.size + 1) :: us).length = ps.length := by
    rw [← r2.length]
    exact F.len _ _ _ _ hq
  have b := hb _ (Value.ref (s.heap.objs.size + 1) :: us) J.kIn (by rw [List.append_nil]; exact hl)
  rw [List.append_nil] at b
  refine wpAny_call (make_map (f := f) I.kIn M.makes M.init (beq_iff_eq.mp M.fn) (codeAny_mono (F.run _ X.stack _ _ ⟨Value.ref (s.heap.objs.size + 1) :: us, []⟩ (Value.ref (s.heap.objs.size + 1) :: us) _ _ (E σ) (hr.make C us [])
    (J.env0.make C us []) b r2 hq) fun r s' z => ?_))
  cases r with
  | error e => exact hx pins _ _ e s' J z
  | ok fl =>
    cases fl with
    | ret u =>
      obtain ⟨v, H', I3, rv, ev, q3⟩ := J.after z
      subst ev
      exact ⟨rv, ⟨V.ref (s.heap.objs.size + 1), H', I3, rfl, q3⟩⟩
    | next => exact False.elim z
    | brk => exact False.elim z
    | cont => exact False.elim z
theorem t_make {c : Str} {n : Nat} {f : Fn} {ma : AM} {w : WX} {σ : L2.St} {H : Hp} {Q : VK} (t : tE ⟨X.K, none, (X.prog, X.w)⟩ ⟨w, none⟩ (mkE c n f ma) σ H Q) :
    tA ⟨X.K, none, (X.prog, X.w)⟩ ⟨w, none⟩ ma σ H fun vs H1 => ∀ x dx, H1 x = none → H1 dx = none → dx ≠ x → spD ⟨X.K, none, (X.prog, X.w)⟩ n f (.ref x :: vs) (upd (upd H1 dx (.own x)) x (.ins (He.ga X.K c) dx [])) (fun v H2 => v = .non ∧ Q (.ref x) H2) (WE w σ) := by
  obtain ⟨ρ, env, h, rl, p⟩ := t
  refine tG_mono (PostG.bind (R := RL ⟨X.K, none, (X.prog, X.w)⟩) rl p) fun vs H1 ⟨ρ1, h1, ds, x1, r1, p1⟩ x dx hx hdx hne => ?_
  split at p1
  · rename_i hl
    have hl1 := x1.rel.len
    have xo : Ext ⟨X.K, none, (X.prog, X.w)⟩ ρ1 H1 h1 ρ1 (upd H1 dx (.own x)) := Ext.obj x1.rel x1.wf hdx
    have xp : Ext ⟨X.K, none, (X.prog, X.w)⟩ ρ1 (upd H1 dx (.own x)) (h1.push (.inst c [])) (ρ1 ++ [x]) (upd (upd H1 dx (.own x)) x (.ins (He.ga X.K c) dx [])) :=
      Ext.push xo.rel xo.wf (by rw [upd_ne hne.symm]; exact hx) (Nat.zero_le _) fun H' e k => ⟨dx, [], e, by unfold IsF; rfl⟩
    have xx := xo.trans xp
    have at2 : At ⟨X.K, none, (X.prog, X.w)⟩ (ρ1 ++ [x]) (h1.push (.inst c [])) (upd (upd H1 dx (.own x)) x (.ins (He.ga X.K c) dx [])) := xx.at
    have r2 := r1.ext xx hl1
    have here : Is ⟨X.K, none, (X.prog, X.w)⟩ (ρ1 ++ [x]) (upd (upd H1 dx (.own x)) x (.ins (He.ga X.K c) dx [])) (.ref h1.cs.length) (.ref x) := by
      unfold Is
      exact ⟨x, by rw [← hl1, List.getElem?_append_right (Nat.le_refl _), Nat.sub_self]; rfl, rfl⟩
    have len2 : (h1.push (.inst c [])).cs.length = h1.cs.length + 1 := by
      show (h1.cs ++ [Cell.inst c []]).length = _
      rw [List.length_append]; rfl
    refine ⟨by rw [List.length_cons, r1.1.length]; exact hl, ρ1 ++ [x], .ref h1.cs.length :: ds, h1.push (.inst c []), at2, ⟨?_, ?_⟩, ?_⟩
    · unfold IsL
      exact ⟨.ref x, vs, rfl, here, r2.1⟩
    · unfold mrL
      have := r1.2
      rw [len2]
      show max (h1.cs.length + 1) (mrL ds) ≤ _
      omega
    · split at p1
      · rename_i h2 e
        rw [e]
        intro ρ2 v H2 x2 rv
        refine ⟨rv.1.non, p1 ρ2 (.ref x) H2 (xx.trans x2) ⟨?_, ?_⟩⟩
        · exact x2.is (d := .ref h1.cs.length) (by rw [at2.heap.len, len2]; exact Nat.le_refl _) here
        · have := x2.le
          rw [at2.heap.len, len2] at this
          exact this
      · rename_i c' h2 e
        rw [e]
        intro ρ2 H2 x2
        exact p1 ρ2 H2 (xx.trans x2)
      · exact p1.elim
  · exact p1.elim
theorem de_make {x : Str} {p pos : Pos} {e : Expr} {es : List Expr} {ma : AM} {k n : Nat} {a : Addr} {fd : FuncData} {ps : List Str} {f : Fn} {w : WX} (M : Mk X.K (He.ga X.K x) a) (F : FnOk X.prog X.w X.K X.mg X.base (L2.CX X.prog X.w) k a fd ps (spD ⟨X.K, none, (X.prog, X.w)⟩ n f)) (hr : Room (k + 1) X.A) (hg : Gl X x)
    (hm : X.mg x = some (.ref (He.ga X.K x))) (hb : Binds X.K fd ps []) (tk : Takes X w) (ha : DA X ⟨w, none⟩ (e :: es) ma) (hdb : (x == ("__debug__" : Str)) = false) (ns : noStars (e :: es) = true) : DE X ⟨w, none⟩ (.Call (.Name x p) (e :: es) [] pos) (mkE x n f ma) := by
  refine ⟨fun pins s σ H Q I h => ?_⟩
  refine wpAny_Call_Name_kw (ld_glob I hg hm ?_ hdb)
  refine PySem.W.callWith_K (h₀ := X.base) I.ok.mod.kin M.kp (thn (ha.run pos pins s σ H _ I (t_make h)) fun us s1 ⟨vs, H1, I1, r, q⟩ => ⟨I1.kIn, ?_⟩) (star_no (noStars_head ns).1 es _) (noStars_any (noStars_head ns).2 pos _)
  exact run_makeS (E := fun σ => WE w σ) M F hr hb (passAt tk σ) I1 r q
theorem de_make0 {x : Str} {p pos : Pos} {k n : Nat} {a : Addr} {fd : FuncData} {ps : List Str} {f : Fn} {w : WX} (M : Mk X.K (He.ga X.K x) a) (F : FnOk X.prog X.w X.K X.mg X.base (L2.CX X.prog X.w) k a fd ps (spD ⟨X.K, none, (X.prog, X.w)⟩ n f)) (hr : Room (k + 1) X.A) (hg : Gl X x)
    (hm : X.mg x = some (.ref (He.ga X.K x))) (hb : Binds X.K fd ps []) (tk : Takes X w) (hdb : (x == ("__debug__" : Str)) = false) : DE X ⟨w, none⟩ (.Call (.Name x p) [] [] pos) (mkE x n f nilA) := by
  refine ⟨fun pins s σ H Q I h => ?_⟩
  refine wpAny_Call_Name_kw (ld_glob I hg hm ?_ hdb)
  obtain ⟨ρ, env, h', rl, p⟩ := t_make h
  have p : ∀ ρ' b H', Ext ⟨X.K, none, (X.prog, X.w)⟩ ρ H h' ρ' H' → RL ⟨X.K, none, (X.prog, X.w)⟩ ρ' H' h'.cs.length [] b → ∀ y dx, H' y = none → H' dx = none → dx ≠ y → spD ⟨X.K, none, (X.prog, X.w)⟩ n f (.ref y :: b) (upd (upd H' dx (.own y)) y (.ins (He.ga X.K x) dx [])) (fun v H2 => v = .non ∧ Q (.ref y) H2) (WE w σ) := p
  have q2 := p ρ [] H rl.refl ⟨by unfold IsL; rfl, Nat.zero_le _⟩
  exact PySem.W.callWith_K0 I.kIn M.kp (run_makeS (us := []) (E := fun σ => WE w σ) M F hr hb (passAt tk σ) I .nil q2)
/-! ### {'a': e, ..} -/
theorem Ext.sideA {K : KX} {ρ ρ1 : List Addr} {H H1 : Hp} {h1 : PH} {p : Addr} {o u : HO} (x : Ext K ρ H h1 ρ1 H1) (np : H p = none) (nr : p ∉ ρ1) (hp : H1 p = some o) (nt : ∀ xs, o ≠ .tup xs) (nf : ∀ ob v, o ≠ .frz ob v) : Ext K ρ H h1 ρ1 (upd H1 p u) := by
  have k : TupsKeep H1 (upd H1 p u) := keep_old hp nt nf
  refine ⟨x.pre, x.fresh, fun a o na e => ?_, x.kept.trans k, ⟨x.rel.len, x.rel.nd, fun n c a e1 e2 => ?_⟩, x.wf⟩
  · have ha : a ≠ p := ne_of_none e np
    rw [upd_ne ha]; exact x.frame a o na e
  · have hm : a ∈ ρ1 := List.mem_of_getElem? e2
    have ha : a ≠ p := fun z => nr (z ▸ hm)
    exact CellIs.mono (ρ := ρ1) (H := H1) k (max n h1.lim) (fun i _ x hx => hx) (x.wf.at_ n c e1) (upd_ne ha) (x.rel.at_ n c a e1 e2)
theorem Ext.adoptA {K : KX} {ρ ρ1 : List Addr} {H H1 : Hp} {h1 : PH} {p : Addr} {c : Cell} (x : Ext K ρ H h1 ρ1 H1) (np : H p = none) (nr : p ∉ ρ1) (i : CellIs K (ρ1 ++ [p]) H1 p c) (l : c.mr ≤ h1.cs.length) :
    Ext K ρ H (h1.push c) (ρ1 ++ [p]) H1 ∧ RD K (ρ1 ++ [p]) H1 (h1.push c).cs.length (.ref h1.cs.length) (.ref p) := by
  obtain ⟨m, e⟩ := x.pre
  have hlen := x.rel.len
  refine ⟨⟨⟨m ++ [p], by rw [e, List.append_assoc]⟩, fun a h2 h3 => ?_, x.frame, x.kept, ⟨?_, ?_, fun n d a e1 e2 => ?_⟩, x.wf.push l⟩, ?_, ?_⟩
  · rcases List.mem_append.mp h2 with z | z
    · exact x.fresh a z h3
    · have : a = p := by simpa using z
      rw [this]; exact np
  · show (ρ1 ++ [p]).length = (h1.cs ++ [c]).length
    rw [List.length_append, List.length_append, hlen]; rfl
  · refine List.nodup_append.mpr ⟨x.rel.nd, by simp, fun a ha b hb z => ?_⟩
    have : b = p := by simpa using hb
    subst this
    exact nr (z ▸ ha)
  · have e1 : (h1.cs ++ [c])[n]? = some d := e1
    by_cases hn : n < h1.cs.length
    · rw [List.getElem?_append_left hn] at e1
      rw [List.getElem?_append_left (by rw [hlen]; exact hn)] at e2
      refine CellIs.mono (ρ := ρ1) (H := H1) (TupsKeep.refl _) (max n h1.lim) (fun i _ x hx => ?_) (x.wf.at_ n d e1) rfl (x.rel.at_ n d a e1 e2)
      rw [List.getElem?_append_left (List.getElem?_eq_some_iff.mp hx).1]; exact hx
    · rw [List.getElem?_append_right (by omega)] at e1
      have hz : n = h1.cs.length := by
        rcases Nat.eq_zero_or_pos (n - h1.cs.length) with z | z
        · omega
        · rw [List.getElem?_eq_none (by simp; omega)] at e1; cases e1
      subst hz
      rw [← hlen, List.getElem?_append_right (Nat.le_refl _), Nat.sub_self] at e2
      rw [Nat.sub_self] at e1
      have ea : p = a := by simpa using e2
      have ec : c = d := by simpa using e1
      subst ea; subst ec
      exact i
  · unfold Is
    exact ⟨p, by rw [← hlen, List.getElem?_append_right (Nat.le_refl _), Nat.sub_self]; rfl, rfl⟩
  · unfold D.mr
    show _ ≤ (h1.cs ++ [c]).length
    rw [List.length_append]; exact Nat.le_refl _
def dMerge (acc : List (L2.Key × D)) : List (Str × D) → List (L2.Key × D)
  | [] => acc
  | p :: r => dMerge (dPutL acc (.inr p.1) p.2) r
def vMerge (acc : List (L2.Key × V)) : List (Str × V) → List (L2.Key × V)
  | [] => acc
  | p :: r => vMerge (putK acc (.inr p.1) p.2) r
theorem vMerge_is : ∀ (l : List (Str × V)) (acc : List (L2.Key × V)), vMerge acc l = mergeK acc (l.map fun p => (.inr p.1, p.2))
  | [], acc => rfl
  | p :: r, acc => by
    show vMerge (putK acc (.inr p.1) p.2) r = _
    rw [vMerge_is r]; rfl
theorem dMerge_is {K : KX} {ρ : List Addr} {H : Hp} : ∀ {ks : List Str} {ds : List D} {vs : List V} {a : List (L2.Key × D)} {b : List (L2.Key × V)}, IsL K ρ H ds vs → IsK K ρ H a b → IsK K ρ H (dMerge a (ks.zip ds)) (vMerge b (ks.zip vs))
  | [], ds, vs, a, b, _, h => by simp only [List.zip_nil_left]; exact h
  | k :: ks, [], vs, a, b, i, h => by
    unfold IsL at i
    subst i
    exact h
  | k :: ks, d :: ds, vs, a, b, i, h => by
    unfold IsL at i
    obtain ⟨v, r, rfl, i1, i2⟩ := i
    exact dMerge_is (ks := ks) (a := dPutL a (.inr k) d) (b := putK b (.inr k) v) i2 (isK_put i1 h)
theorem dMerge_mr {n : Nat} : ∀ {ks : List Str} {ds : List D} {a : List (L2.Key × D)}, mrL ds ≤ n → mrK a ≤ n → mrK (dMerge a (ks.zip ds)) ≤ n
  | [], ds, a, _, h => by simp only [List.zip_nil_left]; exact h
  | k :: ks, [], a, _, h => h
  | k :: ks, d :: ds, a, l, h => by
    unfold mrL at l
    exact dMerge_mr (ks := ks) (a := dPutL a (.inr k) d) (by omega) (Nat.le_trans mrK_put (Nat.max_le.mpr ⟨h, by show d.mr ≤ n; omega⟩))
def dispE (ks : List Str) (a : AM) : EM := fun e h => (a e h).bind fun ds h1 => if ds.length = ks.length then .ok (.ref h1.cs.length) (h1.push (.dict (dMerge [] (ks.zip ds)))) else .stuck
def keysC : List (Option Expr) → Option (List Str)
  | [] => some []
  | some (.Constant (.str k) _ _) :: r => (match keysC r with
    | some l => some (k :: l)
    | none => none)
  | _ => none
def conA (f : Expr → EM) : List Expr → AM
  | [] => nilA
  | e :: es => consA (f e) (conA f es)
theorem keys_pps {f : Expr → EM} (hf : ∀ e, DE X W e (f e)) {pos : Pos} : ∀ {ks : List (Option Expr)} {vs : List Expr} {l : List Str}, keysC ks = some l → l.length = vs.length →
    ∃ trs, PPs X pos ks vs trs ∧ ks.all (·.isSome) = true ∧ ks.length = vs.length ∧ ∀ (σ : L2.St) (H : Hp) (Q : List V → Hp → Prop) (Q' : List (V × V) → Hp → Prop), tA (kx X W) W (conA f vs) σ H Q → (∀ ys H2, ys.length = l.length → Q ys H2 → Q' ((l.zip ys).map fun p => (V.str p.1, p.2)) H2) → tPairs trs σ H Q'
  | ks, vs, l, h, hl => by
    unfold keysC at h
    split at h
    · cases h
      cases vs with
      | nil =>
        refine ⟨[], pps_nil, rfl, rfl, fun σ H Q Q' t g => ?_⟩
        obtain ⟨ρ, env, h, rl, p⟩ := t
        exact g [] H rfl (p ρ [] H rl.refl ⟨by unfold IsL; rfl, Nat.zero_le _⟩)
      | cons _ _ => cases hl
    · split at h
      · rename_i k _ _ r _ l' e
        cases h
        cases vs with
        | nil => cases hl
        | cons v vs =>
          obtain ⟨trs, h1, h2, h3, h4⟩ := keys_pps hf (pos := pos) (vs := vs) e (by simpa using hl)
          refine ⟨(tC (.str k), tE (kx X W) W (f v)) :: trs, pps_cons pe_str (hf v) h1, by rw [List.all_cons, h2]; rfl, by rw [List.length_cons, List.length_cons, h3], fun σ H Q Q' t g => ?_⟩
          obtain ⟨ρ, env, h, rl, p⟩ := t
          show tE (kx X W) W (f v) σ H fun y H2 => tPairs trs σ H2 fun ps H3 => Q' ((V.str k, y) :: ps) H3
          refine tG_mono (PostG.bind (m := f v) (R := RD (kx X W)) rl p) fun y H1 ⟨ρ1, h1', a1, x1, ra1, p1⟩ => ?_
          have rl1 := rl.ext x1
          refine h4 σ H1 (fun ys H2 => Q (y :: ys) H2) _ ⟨ρ1, env, h1', rl1, ?_⟩ fun ys H2 e4 e5 => g (y :: ys) H2 (by rw [List.length_cons, List.length_cons, e4]) e5
          cases e2 : conA f vs env h1' with
          | stuck => rw [e2] at p1; exact p1
          | exc c h2 => rw [e2] at p1; exact p1
          | ok ds h2 =>
            rw [e2] at p1
            intro ρ' ys H' x' r'
            have ra := ra1.ext x' rl1.len
            refine p1 ρ' (y :: ys) H' x' ⟨?_, ?_⟩
            · unfold IsL; exact ⟨y, ys, rfl, ra.1, r'.1⟩
            · unfold mrL; have := ra.2; have := r'.2; omega
      · cases h
    · cases h
theorem de_dispG {f : Expr → EM} (hf : ∀ e, DE X W e (f e)) {ks : List (Option Expr)} {vs : List Expr} {l : List Str} {pos : Pos} (h : keysC ks = some l) (hl : l.length = vs.length) (h15 : ks.length ≤ 15) (h0 : ks ≠ []) : DE X W (.Dict ks vs pos) (dispE l (conA f vs)) := by
  obtain ⟨trs, h1, h2, h3, h4⟩ := keys_pps hf (pos := pos) h hl
  refine pe_imp (pe_disp h1 h2 h3 h0 h15) fun σ H Q t q hq => ?_
  obtain ⟨ρ, env, h, rl, p⟩ := t
  have xo : Ext (kx X W) ρ H h ρ (upd H q (.dK [])) := Ext.obj rl.heap rl.wf hq
  have nq : q ∉ ρ := rl.heap.fresh (h := h) hq
  refine h4 σ (upd H q (.dK [])) (fun ys H2 => H2 q = some (.dK []) ∧ Q (.ref q) (upd H2 q (.dK (mergeK [] ((l.zip ys).map fun p => (.inr p.1, p.2)))))) _ ⟨ρ, env, h, rl.ext xo, ?_⟩ fun ys H2 e4 ⟨e5, e6⟩ => ⟨e5, (l.zip ys).map fun p => (.inr p.1, p.2), by rw [List.map_map]; rfl, ?_, e6⟩
  · cases e2 : conA f vs env h with
    | stuck =>
      have p : PostG (kx X W) W (RD (kx X W)) σ Q ρ H ((conA f vs env h).bind fun ds h1 => if ds.length = l.length then .ok (.ref h1.cs.length) (h1.push (.dict (dMerge [] (l.zip ds)))) else .stuck) := p
      rw [e2] at p; exact p
    | exc c h2 =>
      have p : PostG (kx X W) W (RD (kx X W)) σ Q ρ H ((conA f vs env h).bind fun ds h1 => if ds.length = l.length then .ok (.ref h1.cs.length) (h1.push (.dict (dMerge [] (l.zip ds)))) else .stuck) := p
      rw [e2] at p
      exact fun ρ' H' x' => p ρ' H' (xo.trans x')
    | ok ds h2 =>
      have p : PostG (kx X W) W (RD (kx X W)) σ Q ρ H ((conA f vs env h).bind fun ds h1 => if ds.length = l.length then .ok (.ref h1.cs.length) (h1.push (.dict (dMerge [] (l.zip ds)))) else .stuck) := p
      rw [e2] at p
      intro ρ1 ys H1 x1 r1
      have p : PostG (kx X W) W (RD (kx X W)) σ Q ρ H (if ds.length = l.length then .ok (.ref h2.cs.length) (h2.push (.dict (dMerge [] (l.zip ds)))) else .stuck) := p
      split at p
      · have nq1 : q ∉ ρ1 := fun z => by
          have := x1.fresh q z nq
          rw [upd_same] at this; cases this
        have hq1 : H1 q = some (.dK []) := x1.frame q _ nq upd_same
        have x2 := (xo.trans x1).sideA (u := .dK (mergeK [] ((l.zip ys).map fun p => (.inr p.1, p.2)))) hq nq1 hq1 (fun _ z => by cases z) (fun _ _ z => by cases z)
        have k : TupsKeep H1 (upd H1 q (.dK (mergeK [] ((l.zip ys).map fun p => (.inr p.1, p.2))))) := keep_old hq1 (fun _ z => by cases z) (fun _ _ z => by cases z)
        have i2 : IsL (kx X W) ρ1 (upd H1 q (.dK (mergeK [] ((l.zip ys).map fun p => (.inr p.1, p.2))))) ds ys := IsL.mono k ρ1.length (fun i _ a ha => ha) ds ys (by rw [x1.rel.len]; exact r1.2) r1.1
        have mr := dMerge_mr (ks := l) (a := []) r1.2 (Nat.zero_le _)
        obtain ⟨x3, r3⟩ := x2.adoptA (c := .dict (dMerge [] (l.zip ds))) hq nq1 ⟨_, upd_same, by
          have i3 := dMerge_is (ks := l) (a := []) (b := []) i2 (by unfold IsK; rfl)
          rw [vMerge_is] at i3
          exact IsK.mono (TupsKeep.refl _) ρ1.length (fun i hi a ha => by rw [List.getElem?_append_left hi]; exact ha) _ _ (by rw [x1.rel.len]; exact mr) i3⟩ mr
        exact ⟨hq1, p _ _ _ x3 r3⟩
      · exact p.elim
  · rw [List.length_map, List.length_zip, e4, Nat.min_self, hl, ← h3]; exact h15
end
end Dy

/-! Defs that are handed the error, called within an except suite. -/
namespace Dy
open PySem PySem.Spec PyProof.Rows L2
/-- isinstance of an error that stands pinned -/
theorem call_isP {X : Cx} {a D : Addr} {oe : Obj} (C : ExcC X.K D) (hz : Zc (.ref D) none oe) (hf : ∃ vs, oe.data = .fields vs) (hp : (a, oe) ∈ X.pn) : CallR X (.builtin "isinstance") (rIsE X.K D a) := by
  intro pins s σ H xs us Q I r h
  obtain ⟨c, cv, b, rfl, hcv, e, q⟩ := h
  obtain ⟨hget, _⟩ := I.pin (a, oe) (List.mem_append.mpr (.inl hp))
  obtain ⟨vs, hv⟩ := hf
  have J : PySem.W.InstAt s.heap a oe D none := by
    obtain ⟨oc, od, oda, osl⟩ := oe
    obtain ⟨h1, h2⟩ := hz
    dsimp only at h1 h2 hv
    subst h1 h2 hv
    exact ⟨hget, rfl, rfl, trivial⟩
  match us, r with
  | [u1, u2], .cons rx (.cons rt .nil) =>
    cases rx
    have ec := hcv _ rt
    subst ec
    exact PySem.W.kia_one (PySem.W.handS_kitx_exc C.hg C.hk C.hs C.hd C.ha C.hn C.ht C.hm) I.kIn J e (fun z => nomatch z) fun tk => ⟨.bl b, H, I.kept (t' := tk) fun _ _ z => z, rfl, q⟩
/-- what such a def promises -/
def spHot (P : Program) (w : World) (K : PySem.W.Frag) (f : Fn) (H : Hp) (Q : VK) : Prop := ∃ ρ h, At ⟨K, none, (P, w)⟩ ρ h H ∧ (match f [] h with
  | .ok d h1 => ∀ ρ1 v H1, Ext ⟨K, none, (P, w)⟩ ρ H h1 ρ1 H1 → RD ⟨K, none, (P, w)⟩ ρ1 H1 h1.cs.length d v → Q v H1
  | _ => False)
structure FnHot (P : Program) (w : World) (K : PySem.W.Frag) (mg : Str → Option Value) (base : Heap) (k : Nat) (f : Addr) (fd : FuncData) (x : Str) (c : Str) (g : Fn) : Prop where
  run : ∀ (A : Around) (outer : List PySem.Env) (s : Shared) (H : Hp) (args : Args) (a : Addr) (oe : Obj) (Q : VK) (E : XK), L2H.RoomH k A → L2H.PinOk outer H s (a, oe) → Zc (.ref (He.ga K c)) none oe → (∃ vs, oe.data = .fields vs) → Env0 P w K mg base A outer s H → BindsTo s fd args [(x, .ref a)] → spHot P w K g H Q →
    codeAny (model P w) A (.call (.ref f) args) (CR (L2.CX P w) outer P w H s Q E) s
theorem FnHot.mono {P : Program} {w : World} {K : PySem.W.Frag} {mg : Str → Option Value} {base : Heap} {j k : Nat} {f : Addr} {fd : FuncData} {x c : Str} {g : Fn} (F : FnHot P w K mg base j f fd x c g) (h : j ≤ k) : FnHot P w K mg base k f fd x c g :=
  ⟨fun A outer s H args a oe Q E r => F.run A outer s H args a oe Q E (r.mono h)⟩
theorem fn_hot {P : Program} {w : World} {K : PySem.W.Frag} {mg : Str → Option Value} {base : Heap} {x qual : Str} {params : Arguments} {body : List Stmt} {scope : Scope} {dvs : List V} {kws : List (Str × V)} {f : Addr} {fd : FuncData} {N : List Str} {p c : Str} {k : Nat} {g : Fn} (F : FunD K x qual params body scope dvs kws f fd) (S : FnScope N [p] scope)
    (hbody : ∀ (cdv : Value) (A : Around) (outer : List PySem.Env) (s : Shared) (H : Hp) (a : Addr) (oe : Obj) (Q : VK) (E : XK), L2H.RoomH k (A.deeper (envOfC qual scope s.heap.objs.size f cdv)) → Zc (.ref (He.ga K c)) none oe → (∃ vs, oe.data = .fields vs) → spHot P w K g H Q →
      ∃ t, PSs (L2H.cxH (L2.CX P w) P w K mg base N qual scope f cdv A outer s H E (a, oe)) body t ∧ t { nx := fun _ H' => Q .non H', rt := Q } (L2.start N [.ref a]) H) : FnHot P w K mg base (k + 1) f fd p c g := by
  obtain ⟨oc, od, dV, kV, doc, pm, an, cdv, ct, osl, rfl, lk, hcd, _, _⟩ := F.ex
  refine ⟨fun A outer s H args a oe Q E hr hpin hz hf e0 hb hsp => ?_⟩
  have KX : K.In s.heap := e0.mod.kin.keeps fun b o e => (e0.bs b o e).1
  have lim : s.heap.NoLimit := e0.mod.nolimit.keeps fun b o e => (e0.bs b o e).1
  have hkind : ∀ y ∈ [(p, Value.ref a)], scope.names.lookup y.1 = some .local ∨ (scope.names.lookup y.1 = some .cell ∧ ((cellsFrom (s.heap.objs.size + 1) scope.names []).lookup y.1).isSome = true) := fun ⟨n, v⟩ hy => by
    have : n = p := by simp at hy; exact hy.1
    subst this
    rcases S.par n (by simp) with q | q
    · exact .inl q
    · exact .inr ⟨q, PySem.W.cellsFrom_some _ _ _ (.inl q)⟩
  refine codeAny_call_function hr.depth (KX _ _ lk) rfl S.co S.gen rfl (PySem.W.codeRec_of KX hcd) (hb _ _ _ _ ?_)
  refine wpAny_newFunctionEnv_cells S.kind hkind fun env he s1 x => ?_
  subst he
  refine ⟨lim.keeps x.toInCall.keep, codeAny_func ?_⟩
  obtain ⟨t, ht, hq⟩ := hbody cdv A outer s H a oe Q E (hr.deeper _) hz hf hsp
  have I : Inv (L2H.cxH (L2.CX P w) P w K mg base N qual scope f cdv A outer s H E (a, oe)) [] (L2.start N [.ref a]) H s1 := L2H.inv_startH (ps := [p]) (us := [.ref a]) S hpin e0 rfl (.cons rfl .nil) x
  refine wpAny_mono (ht.run [] s1 (L2.start N [.ref a]) H _ I hq) (fun fl s' hs => ?_) fun e s' hs => hs
  have fin : ∀ {σ' : L2.St} {H' : Hp} {v : V} {u : Value}, Inv (L2H.cxH (L2.CX P w) P w K mg base N qual scope f cdv A outer s H E (a, oe)) [] σ' H' s' → RelV v u → Q v H' → CE outer P w H s Q u s' :=
    fun {σ' H' v u} J rv q => ⟨v, H', J.os, J.bare, J.base, J.hok, rv, q⟩
  cases fl with
  | ret u =>
    obtain ⟨v, σ', H', J, rv, q⟩ := hs
    exact fin J rv q
  | next =>
    obtain ⟨σ', H', J, q⟩ := hs
    exact fin (v := V.non) (u := Value.none) J rfl q
  | brk =>
    obtain ⟨_, _, _, q⟩ := hs
    exact False.elim q
  | cont =>
    obtain ⟨_, _, _, q⟩ := hs
    exact False.elim q
/-- the call -/
def hotE (f : Fn) : EM := fun _ h => match f [] h with
  | .ok d h1 => .ok d h1
  | _ => .stuck
theorem At.hx {F : PySem.W.Frag} {pw : Program × World} {a b : Option (Nat × Addr)} {ρ : List Addr} {h : PH} {H : Hp} (x : At ⟨F, a, pw⟩ ρ h H) : At ⟨F, b, pw⟩ ρ h H := ⟨x.heap.hx, x.wf⟩
theorem de_hot {X : Cx} {W : WJ} {x n c y : Str} {p np pos : Pos} {k i : Nat} {a f : Addr} {oe : Obj} {fd : FuncData} {g : Fn} (F : FnHot X.prog X.w X.K X.mg X.base k f fd y c g) (hr : L2H.RoomH k X.A) (hg : Gl X x) (hm : X.mg x = some (.ref f)) (hk : PySem.W.keepIn X.K (.ref f) = true) (hb : Binds X.K fd [y] []) (tk : Takes X W.w)
    (hdb : (x == ("__debug__" : Str)) = false) (w1 : W.hx = some (i, a)) (hz : Zc (.ref (He.ga X.K c)) none oe) (hv : ∃ vs, oe.data = .fields vs) (hp : (a, oe) ∈ X.pn) (hn : X.N[i]? = some n) (hvis : Vis X.env.scope n) (o1 : (n == ("__debug__" : Str)) = false) (o2 : (n == ("__classdict__" : Str)) = false) : DE X W (.Call (.Name x p) [.Name n np] [] pos) (hotE g) := by
  have ns : noStars [Expr.Name n np] = true := rfl
  refine ⟨fun pins s σ H Q I t => ?_⟩
  obtain ⟨ρ, env, h, rl, q⟩ := t
  have inv := rl.eis.inv
  have e1 : (kx X W).hx = some (i, a) := w1
  have e2 : σ[i]? = some (some (.ref a)) := by
    unfold KX.J at inv
    rw [e1] at inv
    exact inv
  have sp : spHot X.prog X.w X.K g H Q := by
    refine ⟨ρ, h, (At.hx ⟨rl.heap, rl.wf⟩), ?_⟩
    unfold hotE at q
    cases eg : g [] h with
    | stuck => rw [eg] at q; exact q.elim
    | exc _ _ => rw [eg] at q; exact q.elim
    | ok d h1 =>
      rw [eg] at q
      exact fun ρ1 v H1 x1 r1 => q ρ1 v H1 x1.hx r1.hx
  have ha : PA X [.Name n np] (tCons (tVar i) tNil) := pa_cons (pe_var (pos := np) hn hvis o1 o2) pa_nil (star_no (noStars_head ns).1 [] _)
  refine wpAny_Call_Name_kw (ld_glob I hg hm ?_ hdb)
  refine PySem.W.callWith_K (h₀ := X.base) I.ok.mod.kin hk (thn (ha.run pos pins s σ H (fun vs H1 => vs = [.ref a] ∧ spHot X.prog X.w X.K g H1 Q) I ⟨_, e2, rfl, sp⟩) fun us s1 ⟨vs, H1, I1, r, ev, q⟩ => ⟨I1.kIn, ?_⟩) (star_no (noStars_head ns).1 [] _) (noStars_any (noStars_head ns).2 pos _)
  subst ev
  cases r with
  | cons r rr =>
  cases rr
  have r : _ = Value.ref a := r
  subst r
  have b := hb s1 [.ref a] I1.kIn rfl
  rw [List.append_nil] at b
  have P1 := I1.pin (a, oe) (List.mem_append_left _ hp)
  have hpin : L2H.PinOk X.stack H1 s1 (a, oe) := ⟨P1.1, P1.2.1, fun hm => (List.mem_cons.mp (I1.stkSub a hm)).elim P1.2.2.1 P1.2.2.2.1, P1.2.2.2.2⟩
  refine wpAny_call (codeAny_mono (F.run X.A X.stack s1 H1 ⟨[.ref a], []⟩ a oe Q (WE W.w σ) hr hpin hz hv I1.env0 b q) fun r s' hq => ?_)
  cases r with
  | error e => exact passAt tk σ pins H1 s1 e s' I1 hq
  | ok fl =>
    cases fl with
    | ret u => exact I1.after hq
    | next => exact False.elim hq
    | brk => exact False.elim hq
    | cont => exact False.elim hq
end Dy

/-! isinstance; the table of a program; the compiler of expressions. -/
namespace Dy
open PySem PySem.Spec PyProof.Rows L2
/-! ### isinstance -/
def tyName (h : PH) : D → Option String
  | .non => some "NoneType"
  | .bl _ => some "bool"
  | .int _ => some "int"
  | .str _ => some "str"
  | .tup _ => some "tuple"
  | .frl _ => some "list"
  | .ref n => (match h.cs[n]? with
    | some (.lst _) => some "list"
    | _ => none)
  | _ => none
def tyAsk : List String := ["int", "bool", "str", "tuple", "list"]
def isiB (a b : String) : Bool := a == b || (a == "bool" && b == "int")
theorem isiB_ok : (["NoneType", "bool", "int", "str", "tuple", "list"].all fun a => tyAsk.all fun b => decide (kitB a b = some (isiB a b))) = true := by decide +kernel
def isiF (d c : D) (h : PH) : Res D := match tyName h d, c with
  | some a, .ty b => if tyAsk.contains b = true then .ok (.bl (isiB a b)) h else .stuck
  | _, _ => .stuck
section
variable {X : Cx} {W : WJ}
theorem tyName_is {K : KX} {ρ : List Addr} {h : PH} {H : Hp} (at_ : At K ρ h H) {d : D} {v : V} {a : String} (e : tyName h d = some a) (r : RD K ρ H h.cs.length d v) :
    TyX K.K H v (.type a) ∧ a ∈ ["NoneType", "bool", "int", "str", "tuple", "list"] := by
  cases d with
  | non => cases e; rw [r.1.non]; exact ⟨.base .non, by simp⟩
  | bl b => cases e; rw [r.1.bl]; exact ⟨.base (.bl b), by simp⟩
  | int b => cases e; rw [r.1.int]; exact ⟨.base (.int b), by simp⟩
  | str b => cases e; rw [r.1.str]; exact ⟨.base (.str b), by simp⟩
  | tup ds =>
    cases e
    obtain ⟨p, xs, rfl, s, _⟩ := r.1.tup
    refine ⟨?_, by simp⟩
    rcases s with (s | ⟨o, s⟩) | ⟨o, _, _, s, c, _⟩
    · exact .base (.tup s)
    · exact .fTuple s
    · exact .kTuple s c
  | frl ds =>
    cases e
    obtain ⟨p, xs, rfl, s, _⟩ := r.1.frl
    refine ⟨?_, by simp⟩
    rcases s with ⟨o, s⟩ | ⟨o, _, _, s, c, _⟩
    · exact .base (.frz s)
    · exact .kList s c
  | ref n =>
    have e' : (match h.cs[n]? with
    | some (.lst _) => some "list"
    | _ => none) = some a := e
    split at e'
    · rename_i ds q
      cases e'
      obtain ⟨p, xs, rfl, _, h1, _⟩ := at_.lst q r.1
      exact ⟨.base (.lst h1), by simp⟩
    · cases e'
  | _ => cases e
theorem o_isi : OpN (kx X W) W (f2 isiF) (rIsi X.K) := by
  intro σ ρ h H ds xs Q at_ rl p
  unfold f2 at p
  split at p
  · rename_i d c
    unfold isiF at p
    split at p
    · rename_i a b e
      split at p
      · rename_i hb
        obtain ⟨v, u, rfl, i1, i2⟩ := rl.1.two
        have l : mrL [d, .ty b] ≤ h.cs.length := rl.2
        unfold mrL at l
        obtain ⟨t1, t2⟩ := tyName_is at_ e ⟨i1, by omega⟩
        unfold Is at i2
        subst i2
        have k : kitB a b = some (isiB a b) := by
          have z := List.all_eq_true.mp isiB_ok a t2
          exact of_decide_eq_true (List.all_eq_true.mp z b (by simpa using hb))
        exact ⟨v, .ty b, .type a, .type b, _, rfl, .ty b, t1, kit_ty k, p ρ _ H at_.refl is_bl⟩
      · exact p.elim
    · exact p.elim
  · exact p.elim

def gcdF : D → D → PH → Res D := stepI fun i j => some (.int ((Nat.gcd i.natAbs j.natAbs : Nat) : Int))
theorem o_gcd : OpN (kx X W) W (f2 gcdF) rGcd := by
  intro σ ρ h H ds xs Q at_ rl p
  unfold f2 at p
  split at p
  · rename_i d c
    unfold gcdF stepI at p
    split at p
    · rename_i i j
      obtain ⟨v, u, rfl, i1, i2⟩ := rl.1.two
      rw [i1.int, i2.int]
      exact ⟨i, j, rfl, p ρ _ H at_.refl is_int⟩
    · exact p.elim
  · exact p.elim
/-! ### what the top has left, as the code uses it -/
structure Tab where
  fn : Str → Option (Nat × Fn)
  con : Str → Option D
  free : Str → Bool
  exc : Str → Bool
  /-- is an error of the class c one of the class x -/
  sub : Str → Str → Option Bool
  /-- is it the module's name of math.gcd -/
  gcd : Str → Bool
  /-- .. one of a built-in class -/
  subT : Str → Str → Option Bool
  /-- a dict of the module with text keys -/
  dic : Str → Option (List (Str × D))
  /-- a class's attribute that is a field -/
  fld : Str → Str → Bool := fun _ _ => false
  /-- a class's method -/
  mth : Str → Str → Option (Nat × Fn) := fun _ _ => none
  /-- a class that is made by its __init__ -/
  mkr : Str → Option (Nat × Fn) := fun _ => none
  /-- a def that is handed the error that is held -/
  hot : Str → Option (Str → Fn) := fun _ => none
structure DicOk (w : World) (K : PySem.W.Frag) (mg : Str → Option Value) (x : Str) (l : List (Str × D)) : Prop where
  mg : mg x = some (.ref (He.ga K x))
  kd : ∃ es n, KDict K w (He.ga K x) es n
  there : ∀ z d, l.lookup z = some d → ∃ u v, PySem.W.nsIn K (He.ga K x) z = some (some u) ∧ RelV v u ∧ (∀ hx pw ρ H, Is ⟨K, hx, pw⟩ ρ H d v) ∧ d.mr = 0
  not_ : ∀ z, l.lookup z = none → PySem.W.nsIn K (He.ga K x) z = some none
structure TabOk (P : Program) (w : World) (K : PySem.W.Frag) (mg : Str → Option Value) (base : Heap) (T : Tab) (k : Nat) : Prop where
  fn : ∀ x n f, T.fn x = some (n, f) → ∃ a fd ps, mg x = some (.ref a) ∧ PySem.W.keepIn K (.ref a) = true ∧ Binds K fd ps [] ∧ FnOk P w K mg base (L2.CX P w) k a fd ps (spD ⟨K, none, (P, w)⟩ n f) ∧ a = He.ga K x
  con : ∀ x d, T.con x = some d → ∃ u v, mg x = some u ∧ RelV v u ∧ (∀ hx pw ρ H, Is ⟨K, hx, pw⟩ ρ H d v) ∧ d.mr = 0
  free : ∀ x, T.free x = true → mg x = none
  exc : ∀ x, T.exc x = true → mg x = some (.ref (He.ga K x)) ∧ (He.Fa.exc x).ok K = true
  sub : ∀ c x b, T.sub c x = some b → mg x = some (.ref (He.ga K x)) ∧ PySem.W.exmOne K (.ref (He.ga K c)) (.ref (He.ga K x)) = some b ∧ PySem.W.kitOne K (.ref (He.ga K c)) (.ref (He.ga K x)) = some b ∧ ExcC K (He.ga K c)
  gcd : ∀ x, T.gcd x = true → mg x = some (.builtin "math.gcd")
  subT : ∀ c x b, T.subT c x = some b → mg x = none ∧ x = "ValueError" ∧ PySem.W.kitOne K (.ref (He.ga K c)) (.type "ValueError") = some b ∧ ExcC K (He.ga K c)
  dic : ∀ x l, T.dic x = some l → DicOk w K mg x l
  fld : TabFld K T.fld
  mth : ∀ c m n f, T.mth c m = some (n, f) → ∃ a fd ps, Cls K (He.ga K c) ∧ Meth K (He.ga K c) m a ∧ Binds K fd ps [] ∧ FnOk P w K mg base (L2.CX P w) k a fd ps (spD ⟨K, none, (P, w)⟩ n f)
  mkr : ∀ c n f, T.mkr c = some (n, f) → mg c = some (.ref (He.ga K c)) ∧ ∃ j a fd ps, j + 1 ≤ k ∧ Mk K (He.ga K c) a ∧ Binds K fd ps [] ∧ FnOk P w K mg base (L2.CX P w) j a fd ps (spD ⟨K, none, (P, w)⟩ n f)
  hot : ∀ x f, T.hot x = some f → ∃ a fd y, mg x = some (.ref a) ∧ PySem.W.keepIn K (.ref a) = true ∧ Binds K fd [y] [] ∧ ∀ c, FnHot P w K mg base k a fd y c (f c)
/-- the static part of where code stands -/
structure SC where
  N : List Str
  sc : Scope
  T : Tab
  k : Nat
  calm : Bool
  top : Bool
  /-- the slot and the class of the error that an except suite holds -/
  hx : Option (Nat × Str)
  /-- the names whose cells are its own -/
  fnc : Str → Bool
  /-- may statements stand here -/
  stm : Bool
structure CxOk (g : SC) (X : Cx) (W : WJ) : Prop where
  hN : X.N = g.N
  nd : g.N.Nodup
  sc : X.env.scope = g.sc
  calm : g.calm = true → X.calm = true ∧ W.hx = none ∧ g.hx = none ∧ Room g.k X.A
  tk : Takes X W.w
  po : g.stm = true → PassesOwn (model X.prog X.w) X.A X.env X.xe
  top : g.top = true → X.stack = X.env :: X.outer ∧ X.env.frame = some X.env.locals
  fn : ∀ x, g.fnc x = true → X.fn x = true
  tab : TabOk X.prog X.w X.K X.mg X.base g.T g.k
  units : X.A.units + 65 < cLine
  kind : g.sc.kind = .function
  hx : ∀ i c, g.hx = some (i, c) → ∃ a oe, W.hx = some (i, a) ∧ Zc (.ref (He.ga X.K c)) none oe ∧ (∃ vs, oe.data = .fields vs) ∧ (a, oe) ∈ X.pn
  rm : L2H.RoomH g.k X.A
  hx0 : g.hx = none → W.hx = none
def ixOf : List Str → Str → Option Nat
  | [], _ => none
  | y :: r, x => if y = x then some 0 else (match ixOf r x with
    | some i => some (i + 1)
    | none => none)
theorem ixOf_get : ∀ {N : List Str} {x : Str} {i : Nat}, ixOf N x = some i → N[i]? = some x
  | [], x, i, h => by cases h
  | y :: r, x, i, h => by
    unfold ixOf at h
    split at h
    · rename_i e
      cases h; rw [e]; rfl
    · split at h
      · rename_i j q
        cases h
        show r[j]? = some x
        exact ixOf_get q
      · cases h
/-- a name of the def's own, where it is read -/
def slot (g : SC) (x : Str) : Option Nat := match g.sc.names.lookup x with
  | some .local => ixOf g.N x
  | some .cell => ixOf g.N x
  | some .free => ixOf g.N x
  | _ => none
/-- .. where it is stored -/
def sslot (g : SC) (x : Str) : Option Nat := match g.sc.names.lookup x with
  | some .local => ixOf g.N x
  | some .cell => if g.fnc x = true then ixOf g.N x else none
  | _ => none
def isGl (g : SC) (x : Str) : Bool := match g.sc.names.lookup x with
  | some .globalImplicit => true
  | _ => false
def okName (x : Str) : Bool := !(x == ("__debug__" : Str)) && (!(x == ("__classdict__" : Str)) && !(x == ("__name__" : Str)))
theorem okName_is {x : Str} (h : okName x = true) : (x == ("__debug__" : Str)) = false ∧ (x == ("__classdict__" : Str)) = false ∧ x ≠ "__name__" := by
  unfold okName at h
  simp only [Bool.and_eq_true, Bool.not_eq_true'] at h
  exact ⟨h.1, h.2.1, by intro e; have := h.2.2; rw [e] at this; simp at this⟩
variable {g : SC}
theorem slot_is (c : CxOk g X W) {x : Str} {i : Nat} (h : slot g x = some i) : X.N[i]? = some x ∧ Vis X.env.scope x := by
  unfold slot at h
  rw [c.hN, c.sc]
  split at h
  · rename_i e; exact ⟨ixOf_get h, .inl e⟩
  · rename_i e; exact ⟨ixOf_get h, .inr (.inl e)⟩
  · rename_i e; exact ⟨ixOf_get h, .inr (.inr e)⟩
  · cases h
theorem sslot_is (c : CxOk g X W) {x : Str} {i : Nat} (h : sslot g x = some i) : X.N[i]? = some x ∧ Loc X.env.scope x ∧ (X.fn x = true ∨ X.env.scope.names.lookup x = some .local) := by
  unfold sslot at h
  rw [c.hN, c.sc]
  split at h
  · rename_i e; exact ⟨ixOf_get h, .inl e, .inr e⟩
  · rename_i e
    split at h
    · rename_i f; exact ⟨ixOf_get h, .inr e, .inl (c.fn x f)⟩
    · cases h
  · cases h
theorem gl_is (c : CxOk g X W) {x : Str} (h : isGl g x = true) : Gl X x := by
  unfold isGl at h
  show X.env.scope.names.lookup x = some .globalImplicit
  rw [c.sc]
  split at h
  · rename_i e; exact e
  · cases h
/-- the built-in classes that isinstance asks for -/
def tyNames : List (Str × String) := [("int", "int"), ("bool", "bool"), ("str", "str"), ("tuple", "tuple"), ("list", "list")]
theorem tyNames_ok : (tyNames.all fun p => decide (bootBuiltins p.1 = some (.type p.2))) = true := by decide +kernel
def tyOf (x : Str) : Option String := tyNames.lookup x
theorem lookup_mem {α : Type} : ∀ {l : List (Str × α)} {x : Str} {a : α}, l.lookup x = some a → (x, a) ∈ l
  | [], x, a, h => by cases h
  | (y, b) :: r, x, a, h => by
    rw [List.lookup_cons] at h
    split at h
    · rename_i e
      cases h
      rw [eq_of_beq e]; exact List.mem_cons_self
    · exact List.mem_cons_of_mem _ (lookup_mem h)
theorem tyOf_is {x : Str} {t : String} (h : tyOf x = some t) : bootBuiltins x = some (.type t) := of_decide_eq_true (List.all_eq_true.mp tyNames_ok _ (lookup_mem h))
/-- a name -/
def cName (g : SC) (x : Str) : EM := if okName x = true then (match slot g x with
  | some i => vE i
  | none => if isGl g x = true then (match g.T.con x with
    | some d => cE d
    | none => if (g.T.fn x).isSome = true then cE (.glb x) else if g.T.free x = true then (match tyOf x with
      | some t => cE (.ty t)
      | none => stuckE) else stuckE) else stuckE) else stuckE
theorem s_name (c : CxOk g X W) (x : Str) (pos : Pos) : DE X W (.Name x pos) (cName g x) := by
  unfold cName
  split
  · rename_i ok
    obtain ⟨o1, o2, o3⟩ := okName_is ok
    split
    · rename_i i e
      obtain ⟨h1, h2⟩ := slot_is c e
      exact de_var (pe_var h1 h2 o1 o2)
    · split
      · rename_i hg
        split
        · rename_i d e
          obtain ⟨u, v, h1, h2, h3, h4⟩ := c.tab.con x d e
          exact de_const (pe_glob (gl_is c hg) h1 h2 o1) (fun ρ H => h3 _ _ ρ H) h4
        · split
          · rename_i hs
            cases e : g.T.fn x with
            | none => rw [e] at hs; cases hs
            | some nf =>
              obtain ⟨a, fd, ps, t1, t2, t3, t4, rfl⟩ := c.tab.fn x nf.1 nf.2 e
              exact de_const (pe_glob (v := .ref (He.ga X.K x)) (gl_is c hg) t1 rfl o1) (fun ρ H => by unfold Is; rfl) rfl
          split
          · rename_i hf
            split
            · rename_i t e
              exact de_const (pe_bltn (v := .ty t) (gl_is c hg) (c.tab.free x hf) (tyOf_is e) rfl o3 o1) (fun ρ H => by unfold Is; rfl) rfl
            · exact de_stuck
          · exact de_stuck
      · exact de_stuck
  · exact de_stuck
/-! ### dicts of the module -/
def dIx (x : Str) (l : List (Str × D)) : D → D → PH → Res D := fun a b h => match a, b with
  | .glb y, .str z => if y = x then (match l.lookup z with
    | some d => .ok d h
    | none => .stuck) else .stuck
  | _, _ => .stuck
def dIn (x : Str) (l : List (Str × D)) : D → D → PH → Res D := fun a b h => match a, b with
  | .str z, .glb y => if y = x then .ok (.bl (l.lookup z).isSome) h else .stuck
  | _, _ => .stuck
def dNotIn (x : Str) (l : List (Str × D)) : D → D → PH → Res D := fun a b h => match a, b with
  | .str z, .glb y => if y = x then .ok (.bl (!(l.lookup z).isSome)) h else .stuck
  | _, _ => .stuck
theorem o_dIx {x : Str} {l : List (Str × D)} {mg : Str → Option Value} (k : DicOk X.w X.K mg x l) : Op2 (kx X W) W (dIx x l) (rIxD X.K X.w) := by
  intro σ ρ h H d e x' y' Q at_ rx ry p
  unfold dIx at p
  split at p
  · rename_i y z
    split at p
    · rename_i ey
      subst ey
      split at p
      · rename_i dd q
        obtain ⟨u, v, n1, rv, is, m0⟩ := k.there z dd q
        obtain ⟨es, n, kd⟩ := k.kd
        have e1 : x' = .ref (He.ga X.K y) := by have := rx.1; unfold Is at this; exact this
        exact ⟨_, z, v, e1, ry.1.str, ⟨es, n, u, kd.at_, kd.lit, n1, rv⟩, p ρ v H at_.refl ⟨is _ _ ρ H, by rw [m0]; exact Nat.zero_le _⟩⟩
      · exact p.elim
    · exact p.elim
  · exact p.elim
theorem nsIn_r {w : World} {K : PySem.W.Frag} {mg : Str → Option Value} {x : Str} {l : List (Str × D)} (k : DicOk w K mg x l) (z : Str) : ∃ r, PySem.W.nsIn K (He.ga K x) z = some r ∧ r.isSome = (l.lookup z).isSome := by
  cases q : l.lookup z with
  | none => exact ⟨none, k.not_ z q, rfl⟩
  | some d =>
    obtain ⟨u, v, n1, _⟩ := k.there z d q
    exact ⟨some u, n1, rfl⟩
theorem o_dIn {x : Str} {l : List (Str × D)} {mg : Str → Option Value} (k : DicOk X.w X.K mg x l) : Op2 (kx X W) W (dIn x l) (fun x' y' H Q => ∃ (z : Str) (r : Option Value), x' = .str z ∧ y' = .ref (He.ga X.K x) ∧ PySem.W.nsIn X.K (He.ga X.K x) z = some r ∧ Q (.bl r.isSome) H) := by
  intro σ ρ h H d e x' y' Q at_ rx ry p
  unfold dIn at p
  split at p
  · rename_i z y
    split at p
    · rename_i ey
      subst ey
      obtain ⟨r, n1, n2⟩ := nsIn_r k z
      have e1 : y' = .ref (He.ga X.K y) := by have := ry.1; unfold Is at this; exact this
      rw [← n2] at p
      exact ⟨z, r, rx.1.str, e1, n1, p ρ _ H at_.refl is_bl⟩
    · exact p.elim
  · exact p.elim
theorem o_dNotIn {x : Str} {l : List (Str × D)} {mg : Str → Option Value} (k : DicOk X.w X.K mg x l) : Op2 (kx X W) W (dNotIn x l) (fun x' y' H Q => ∃ (z : Str) (r : Option Value), x' = .str z ∧ y' = .ref (He.ga X.K x) ∧ PySem.W.nsIn X.K (He.ga X.K x) z = some r ∧ Q (.bl (!r.isSome)) H) := by
  intro σ ρ h H d e x' y' Q at_ rx ry p
  unfold dNotIn at p
  split at p
  · rename_i z y
    split at p
    · rename_i ey
      subst ey
      obtain ⟨r, n1, n2⟩ := nsIn_r k z
      have e1 : y' = .ref (He.ga X.K y) := by have := ry.1; unfold Is at this; exact this
      rw [← n2] at p
      exact ⟨z, r, rx.1.str, e1, n1, p ρ _ H at_.refl is_bl⟩
    · exact p.elim
  · exact p.elim
/-- the module's dict that a name stands for -/
def dicOf (g : SC) : Expr → Option (Str × List (Str × D))
  | .Name x _ => if okName x = true ∧ isGl g x = true then (match g.T.dic x with
    | some l => some (x, l)
    | none => none) else none
  | _ => none
theorem dicOf_is (c : CxOk g X W) {e : Expr} {x : Str} {l : List (Str × D)} (h : dicOf g e = some (x, l)) : ∃ pos, e = .Name x pos ∧ DicOk X.w X.K X.mg x l ∧ DE X W e (cE (.glb x)) := by
  unfold dicOf at h
  split at h
  · rename_i y pos
    split at h
    · rename_i hc
      obtain ⟨ok, hg⟩ := hc
      obtain ⟨o1, o2, o3⟩ := okName_is ok
      split at h
      · rename_i l' q
        cases h
        have k := c.tab.dic _ _ q
        exact ⟨pos, rfl, k, de_const (pe_glob (v := .ref (He.ga X.K x)) (gl_is c hg) k.mg rfl o1) (fun ρ H => by unfold Is; rfl) rfl⟩
      · cases h
    · cases h
  · cases h
theorem dicOf_gl (c : CxOk g X W) {e : Expr} {x : Str} {l : List (Str × D)} (h : dicOf g e = some (x, l)) : Gl X x ∧ (x == ("__debug__" : Str)) = false := by
  unfold dicOf at h
  split at h
  · rename_i y pos
    split at h
    · rename_i hc
      obtain ⟨ok, hg⟩ := hc
      obtain ⟨o1, o2, o3⟩ := okName_is ok
      split at h
      · cases h
        exact ⟨gl_is c hg, o1⟩
      · cases h
    · cases h
  · cases h
end
end Dy

/-! The compiler of expressions, and that it is right. -/
namespace Dy
open PySem PySem.Spec PyProof.Rows L2
section
variable {X : Cx} {W : WJ} {g : SC}
/-! ### operators by name -/
def binF : Operator → Option (D → D → PH → Res D)
  | .Add => some addF
  | .Sub => some subF
  | .Mult => some mulF
  | .FloorDiv => some fdivF
  | .Mod => some modF
  | .Pow => some powF
  | .LShift => some shlF
  | .RShift => some shrF
  | _ => none
theorem binF_ok {op : Operator} {f : D → D → PH → Res D} (h : binF op = some f) : ∃ r, OpR X (binaryOp op) r ∧ Op2 (kx X W) W f r := by
  cases op <;> first | (cases h; done) | skip
  · cases h; exact ⟨_, op_add.or (op_add_str.or (op_catA.or op_cat)), o_add⟩
  · cases h; exact ⟨_, op_sub, o_sub⟩
  · cases h; exact ⟨_, op_mulW.or (op_repW.or (op_repS.or op_rep)), o_mul⟩
  · cases h; exact ⟨_, op_mod, o_mod⟩
  · cases h; exact ⟨_, op_pow, o_pow⟩
  · cases h; exact ⟨_, op_shlW, o_shl⟩
  · cases h; exact ⟨_, op_shr, o_shr⟩
  · cases h; exact ⟨_, op_fdivW, o_fdiv⟩
def cmpF : CmpOp → Option (D → D → PH → Res D)
  | .Eq => some eqF
  | .NotEq => some neF
  | .Lt => some ltF
  | .LtE => some leF
  | .Gt => some gtF
  | .GtE => some geF
  | .In => some inF
  | .NotIn => some notInF
  | .Is => some isF
  | .IsNot => some isNotF
theorem cmpF_ok (c : CxOk g X W) {op : CmpOp} {f : D → D → PH → Res D} (h : cmpF op = some f) : ∃ r, OpR X (compareOp op) r ∧ Op2 (kx X W) W f r := by
  have hu := c.units
  have hu1 : X.A.units + 64 < cLine := by omega
  have hu2 : X.A.units < cLine := by omega
  have hu3 : X.A.units + 9 < cLine := by omega
  cases op
  · cases h; exact ⟨_, op_eq.or (op_eqD hu1), o_eq⟩
  · cases h; exact ⟨_, op_ne.or (op_neD hu1), o_ne⟩
  · cases h; exact ⟨_, op_lt.or (op_ltT hu2), o_lt⟩
  · cases h; exact ⟨_, op_le, o_intB⟩
  · cases h; exact ⟨_, op_gt, o_intB⟩
  · cases h; exact ⟨_, op_ge, o_intB⟩
  · cases h; exact ⟨_, op_isN, o_is⟩
  · cases h; exact ⟨_, op_notN, o_isNot⟩
  · cases h; exact ⟨_, op_in_str.or (op_in_seq.or ((op_inD hu).or ((op_inDct hu3).or (op_inTp hu)))), o_in⟩
  · cases h; exact ⟨_, op_notin_str.or (op_notIn_seq.or ((op_notInD hu).or ((op_notInDct hu3).or (op_notInTp hu)))), o_notIn⟩
/-! ### built-ins by name -/
def dictF (d : D) (h : PH) : Res D := match d with
  | .ref n => (match h.cs[n]? with
    | some (.dict kvs) => .ok (.ref h.cs.length) (h.push (.dict kvs))
    | _ => .stuck)
  | _ => .stuck
theorem o_dictc : Op1 (kx X W) W dictF (fun x H Q => ∃ a kvs, x = .ref a ∧ Rd H a (.dK kvs) ∧ ∀ p, H p = none → Q (.ref p) (upd H p (.dK kvs))) := by
  intro σ ρ h H d x Q at_ rx p
  unfold dictF at p
  split at p
  · split at p
    · rename_i kvs q
      obtain ⟨a, xs, rfl, _, h1, h2, h3⟩ := at_.dct q rx.1
      refine ⟨a, xs, rfl, .inl h1, fun q hq => ?_⟩
      have x2 := Ext.push (o := .dK xs) (c := .dict kvs) at_.heap at_.wf hq h3 fun H' e k => ⟨xs, e, IsK.mono k ρ.length (fun i hi a ha => by rw [List.getElem?_append_left hi]; exact ha) kvs xs (by rw [at_.heap.len]; exact h3) h2⟩
      refine p _ _ _ x2 ⟨?_, ?_⟩
      · unfold Is
        exact ⟨q, by rw [← at_.heap.len, List.getElem?_append_right (Nat.le_refl _), Nat.sub_self]; rfl, rfl⟩
      · show _ ≤ (h.cs ++ [Cell.dict kvs]).length
        rw [List.length_append]; exact Nat.le_refl _
    · exact p.elim
  · exact p.elim
theorem c_dictc : CallR X (.type "dict") (fun xs H Q => ∃ x, xs = [x] ∧ ∃ a kvs, x = .ref a ∧ Rd H a (.dK kvs) ∧ ∀ p, H p = none → Q (.ref p) (upd H p (.dK kvs))) := by
  intro pins s σ H xs us Q I r h
  obtain ⟨x, rfl, a, kvs, rfl, h1, h2⟩ := h
  exact call_dictD pins s σ H _ us Q I r ⟨a, kvs, rfl, h1, h2⟩
inductive Bi where
  | dict | len | abs | max2 | min2 | max1 | min1 | int | str | list | tuple | sum | all | any | sorted | isi | ord
def Bi.fn : Bi → Fn
  | .len => f1 lenF
  | .abs => f1 absF
  | .max2 => f2 max2F
  | .min2 => f2 min2F
  | .max1 => f1 max1F
  | .min1 => f1 min1F
  | .int => f1 intF
  | .str => f1 strF
  | .list => f1 listF
  | .tuple => f1 tupleF
  | .sum => f1 sumF
  | .all => f1 allF
  | .any => f1 anyF
  | .sorted => f1 sortedF
  | .isi => f2 isiF
  | .ord => f1 ordF
  | .dict => f1 dictF
def biTab : List ((Str × Nat) × Bi) := [(("dict", 1), .dict), (("len", 1), .len), (("abs", 1), .abs), (("max", 2), .max2), (("min", 2), .min2), (("max", 1), .max1), (("min", 1), .min1), (("int", 1), .int), (("str", 1), .str), (("list", 1), .list), (("tuple", 1), .tuple),
  (("sum", 1), .sum), (("all", 1), .all), (("any", 1), .any), (("sorted", 1), .sorted), (("isinstance", 2), .isi), (("ord", 1), .ord)]
def biOf (x : Str) (n : Nat) : Option Bi := (biTab.find? fun p => decide (p.1 = (x, n))).map (·.2)
theorem biOf_mem {x : Str} {n : Nat} {b : Bi} (h : biOf x n = some b) : ((x, n), b) ∈ biTab := by
  unfold biOf at h
  cases e : biTab.find? fun p => decide (p.1 = (x, n)) with
  | none => rw [e] at h; cases h
  | some p =>
    rw [e] at h
    have h1 := List.mem_of_find?_eq_some e
    have h2 := List.find?_some e
    have h3 : p.1 = (x, n) := of_decide_eq_true h2
    have h4 : p.2 = b := by simpa using h
    rw [← h3, ← h4]; exact h1
/-- a call of a built-in is right -/
def CallOk (X : Cx) (W : WJ) (x : Str) (f : Fn) : Prop := ∀ (p pos : Pos) (e : Expr) (es : List Expr) (m : AM), DA X W (e :: es) m → noStars (e :: es) = true → DE X W (.Call (.Name x p) (e :: es) [] pos) (nA f m)
theorem callB_ok {x : Str} {id : String} {f : Fn} {r : List V → Hp → VK → Prop} (hc : CallR X (.builtin id) r) (hf : OpN (kx X W) W f r) (hg : Gl X x) (hm : X.mg x = none) (hv : bootBuiltins x = some (.builtin id)) (hn : x ≠ "__name__") (hdb : (x == ("__debug__" : Str)) = false) : CallOk X W x f :=
  fun p pos e es m ha hs => de_callB hc hf hg hm hv ha hn hdb (star_no (noStars_head hs).1 es _) (noStars_any (noStars_head hs).2 pos _)
theorem callT_ok {x : Str} {T : String} {f : Fn} {r : List V → Hp → VK → Prop} (hc : CallR X (.type T) r) (hf : OpN (kx X W) W f r) (hg : Gl X x) (hm : X.mg x = none) (hv : bootBuiltins x = some (.type T)) (hn : x ≠ "__name__") (hdb : (x == ("__debug__" : Str)) = false) : CallOk X W x f :=
  fun p pos e es m ha hs => de_callTy hc hf hg hm hv ha hn hdb (star_no (noStars_head hs).1 es _) (noStars_any (noStars_head hs).2 pos _)
/-- those that want a calm place -/
def Bi.calm : Bi → Bool
  | .max2 => true
  | .min2 => true
  | .max1 => true
  | .min1 => true
  | .sum => true
  | .all => true
  | .any => true
  | .list => true
  | _ => false
theorem bi_ok {x : Str} {n : Nat} {b : Bi} (hu : X.A.units + 65 < cLine) (h : biOf x n = some b) (hk : b.calm = true → X.calm = true) (hg : Gl X x) (hm : X.mg x = none) (hn : x ≠ "__name__") (hdb : (x == ("__debug__" : Str)) = false) : CallOk X W x b.fn := by
  have m := biOf_mem h
  unfold biTab at m
  simp only [List.mem_cons, List.not_mem_nil, or_false, Prod.mk.injEq] at m
  rcases m with ⟨⟨rfl, rfl⟩, rfl⟩ | ⟨⟨rfl, rfl⟩, rfl⟩ | ⟨⟨rfl, rfl⟩, rfl⟩ | ⟨⟨rfl, rfl⟩, rfl⟩ | ⟨⟨rfl, rfl⟩, rfl⟩ | ⟨⟨rfl, rfl⟩, rfl⟩ | ⟨⟨rfl, rfl⟩, rfl⟩ | ⟨⟨rfl, rfl⟩, rfl⟩ | ⟨⟨rfl, rfl⟩, rfl⟩ | ⟨⟨rfl, rfl⟩, rfl⟩ | ⟨⟨rfl, rfl⟩, rfl⟩ | ⟨⟨rfl, rfl⟩, rfl⟩ | ⟨⟨rfl, rfl⟩, rfl⟩ | ⟨⟨rfl, rfl⟩, rfl⟩ | ⟨⟨rfl, rfl⟩, rfl⟩ | ⟨⟨rfl, rfl⟩, rfl⟩ | ⟨⟨rfl, rfl⟩, rfl⟩
  · exact callT_ok c_dictc (opn_1 o_dictc) hg hm (by decide +kernel) hn hdb
  · exact callB_ok (c_len (W := W)) (opn_1 o_len) hg hm (by decide +kernel) hn hdb
  · exact callB_ok c_abs (opn_1 o_abs) hg hm (by decide +kernel) hn hdb
  · exact callB_ok (c_max2 (hk rfl)) (opn_2 o_max2) hg hm (by decide +kernel) hn hdb
  · exact callB_ok (c_min2 (hk rfl)) (opn_2 o_min2) hg hm (by decide +kernel) hn hdb
  · exact callB_ok (c_max1 (W := W) (hk rfl) hu) (opn_1 o_max1) hg hm (by decide +kernel) hn hdb
  · exact callB_ok (c_min1 (W := W) (hk rfl) hu) (opn_1 o_min1) hg hm (by decide +kernel) hn hdb
  · exact callT_ok c_int (opn_1 o_int) hg hm (by decide +kernel) hn hdb
  · exact callT_ok c_str (opn_1 o_str) hg hm (by decide +kernel) hn hdb
  · exact callT_ok (c_list (W := W) (hk rfl)) (opn_1 o_list) hg hm (by decide +kernel) hn hdb
  · exact callT_ok (c_tuple (W := W)) (opn_1 o_tuple) hg hm (by decide +kernel) hn hdb
  · exact callB_ok (c_sum (W := W) (hk rfl)) (opn_1 o_sum) hg hm (by decide +kernel) hn hdb
  · exact callB_ok (c_all (W := W) (hk rfl)) (opn_1 o_all) hg hm (by decide +kernel) hn hdb
  · exact callB_ok (c_any (W := W) (hk rfl)) (opn_1 o_any) hg hm (by decide +kernel) hn hdb
  · exact callB_ok (c_sorted (W := W)) (opn_1 o_sorted) hg hm (by decide +kernel) hn hdb
  · exact callB_ok call_isi o_isi hg hm (by decide +kernel) hn hdb
  · exact callB_ok c_ord (opn_1 o_ord) hg hm (by decide +kernel) hn hdb
/-! ### further methods of lists -/
def extF (d : D) (as : List D) (h : PH) : Res D := match refLst h d, as with
  | some (n, ds), [b] => (match refLst h b with
    | some (_, es) => if ds.length + es.length ≤ 16777216 then .ok .non (h.put n (.lst (ds ++ es))) else .stuck
    | none => .stuck)
  | _, _ => .stuck
def popAtF (d : D) (as : List D) (h : PH) : Res D := match refLst h d, as with
  | some (n, ds), [.int i] => if -(2 ^ 63) ≤ i ∧ i < 2 ^ 63 then (match seqIndex? i ds.length with
    | some k => (match ds[k]? with
      | some y => .ok y (h.put n (.lst (ds.eraseIdx k)))
      | none => .stuck)
    | none => .stuck) else .stuck
  | _, _ => .stuck
def insF (d : D) (as : List D) (h : PH) : Res D := match refLst h d, as with
  | some (n, ds), [.int i, y] => if ds.length < 16777216 ∧ 0 ≤ i ∧ i < 2 ^ 63 then .ok .non (h.put n (.lst (ds.take i.toNat ++ [y] ++ ds.drop i.toNat))) else .stuck
  | _, _ => .stuck
def islowerF (d : D) (as : List D) (h : PH) : Res D := match d, as with
  | .str a, [] => .ok (.bl (Txt.islower a)) h
  | _, _ => .stuck
theorem o_ext : OpM (kx X W) W extF rExtend := by
  intro σ ρ h H d x ds xs Q at_ rx ra p
  unfold extF at p
  split at p
  · rename_i n es a q
    split at p
    · rename_i m fs q2
      split at p
      · rename_i c
        obtain ⟨_, _, b, ys, rfl, hb, h1, i, l⟩ := refLst_is at_ q rx
        obtain ⟨v, rfl, iv⟩ := ra.1.one
        have la := mrL_one ra.2
        obtain ⟨_, _, b2, zs, rfl, hb2, h2, i2, l2⟩ := refLst_is at_ q2 ⟨iv, la⟩
        refine ⟨b, b2, ys, zs, rfl, rfl, h1, h2, by rw [sizeLine_eq, i.length, i2.length]; exact c, ?_⟩
        exact p ρ _ _ (put_lst at_ hb (i.append i2) (by rw [mrL_append]; exact Nat.max_le.mpr ⟨l, l2⟩)) is_non
      · exact p.elim
    · exact p.elim
  · exact p.elim
theorem o_popAt : OpM (kx X W) W popAtF rPopAt := by
  intro σ ρ h H d x ds xs Q at_ rx ra p
  unfold popAtF at p
  split at p
  · rename_i n es j q
    split at p
    · rename_i c
      split at p
      · rename_i k qk
        split at p
        · rename_i y qy
          obtain ⟨_, _, b, ys, rfl, hb, h1, i, l⟩ := refLst_is at_ q rx
          obtain ⟨v0, rfl, iv0⟩ := ra.1.one
          have e0 : v0 = .int j := by unfold Is at iv0; exact iv0
          subst e0
          obtain ⟨v, e1, iv⟩ := i.get qy
          refine ⟨b, ys, j, k, v, rfl, rfl, h1, c.1, c.2, by rw [i.length]; exact qk, e1, ?_⟩
          have ly : y.mr ≤ h.cs.length := Nat.le_trans (mrL_get qy) l
          have i3 : IsL (kx X W) ρ H (es.eraseIdx k) (ys.eraseIdx k) := by
            rw [List.eraseIdx_eq_take_drop_succ, List.eraseIdx_eq_take_drop_succ]
            exact (i.take k).append (i.drop (k + 1))
          have l2 : mrL (es.eraseIdx k) ≤ h.cs.length := by
            rw [List.eraseIdx_eq_take_drop_succ, mrL_append]
            exact Nat.max_le.mpr ⟨Nat.le_trans mrL_take l, Nat.le_trans mrL_drop l⟩
          have x2 := put_lst at_ hb i3 l2
          refine p ρ _ _ x2 ⟨x2.is (by rw [at_.heap.len]; exact ly) iv, by rw [put_len]; exact ly⟩
        · exact p.elim
      · exact p.elim
    · exact p.elim
  · exact p.elim
theorem o_ins : OpM (kx X W) W insF (fun x vs H Q => ∃ (l : Addr) (xs : List V) (i : Int) (y : V), x = .ref l ∧ vs = [.int i, y] ∧ H l = some (.lst xs) ∧ xs.length < sizeLine ∧ 0 ≤ i ∧ i < 2 ^ 63 ∧ Q .non (upd H l (.lst (xs.take i.toNat ++ [y] ++ xs.drop i.toNat)))) := by
  intro σ ρ h H d x ds xs Q at_ rx ra p
  unfold insF at p
  split at p
  · rename_i n es j y q
    split at p
    · rename_i c
      obtain ⟨_, _, b, ys, rfl, hb, h1, i, l⟩ := refLst_is at_ q rx
      obtain ⟨v0, v1, rfl, iv0, iv1⟩ := ra.1.two
      have e0 : v0 = .int j := by unfold Is at iv0; exact iv0
      subst e0
      have ly : y.mr ≤ h.cs.length := by have := ra.2; unfold mrL mrL at this; omega
      refine ⟨b, ys, j, v1, rfl, rfl, h1, by rw [sizeLine_eq, i.length]; exact c.1, c.2.1, c.2.2, ?_⟩
      have i1 : IsL (kx X W) ρ H [y] [v1] := by unfold IsL; exact ⟨v1, [], rfl, iv1, by unfold IsL; rfl⟩
      exact p ρ _ _ (put_lst at_ hb (((i.take _).append i1).append (i.drop _)) (by
        rw [mrL_append, mrL_append]
        refine Nat.max_le.mpr ⟨Nat.max_le.mpr ⟨Nat.le_trans mrL_take l, ?_⟩, Nat.le_trans mrL_drop l⟩
        unfold mrL mrL; omega)) is_non
    · exact p.elim
  · exact p.elim
theorem o_islower : OpM (kx X W) W islowerF (fun x xs H Q => ∃ a, x = .str a ∧ xs = [] ∧ True ∧ Q (.bl (Txt.islower a)) H) := by
  intro σ ρ h H d x ds xs Q at_ rx ra p
  unfold islowerF at p
  split at p
  · rename_i a
    exact ⟨a, rx.1.str, ra.1.nil, trivial, p ρ _ H at_.refl is_bl⟩
  · exact p.elim
/-! ### xs.index(y) -/
def fstEq (p : PyData) : List PyData → Option Nat
  | [] => none
  | z :: r => if PyData.eqv z p = true then some 0 else (match fstEq p r with
    | some j => some (j + 1)
    | none => none)
theorem fstEq_is {p : PyData} : ∀ {ds : List PyData} {j : Nat}, fstEq p ds = some j → ∃ z, ds[j]? = some z ∧ PyData.eqv z p = true ∧ ∀ (m : Nat) (z' : PyData), m < j → ds[m]? = some z' → PyData.eqv z' p = false
  | [], j, h => by cases h
  | z :: r, j, h => by
    unfold fstEq at h
    split at h
    · rename_i c
      cases h
      exact ⟨z, rfl, c, fun m z' hm => by omega⟩
    · rename_i c
      split at h
      · rename_i i e
        cases h
        obtain ⟨w, h1, h2, h3⟩ := fstEq_is e
        refine ⟨w, by simpa using h1, h2, fun m z' hm hz => ?_⟩
        cases m with
        | zero =>
          have : z = z' := by simpa using hz
          subst this
          cases q : PyData.eqv z p <;> simp_all
        | succ m => exact h3 m z' (by omega) (by simpa using hz)
      · cases h
def idx1F (d : D) (as : List D) (h : PH) : Res D := match as with
  | [y] => (match toPy h y, toPy h d with
    | some p, some (.list ps) => if SeqAt.shaped (.list ps) = true ∧ SeqAt.shaped p = true then (match fstEq p ps with
      | some j => .ok (.int (j : Nat)) h
      | none => .stuck) else .stuck
    | _, _ => .stuck)
  | _ => .stuck
theorem o_idx1 : OpM (kx X W) W idx1F (rIndexD X.K) := by
  intro σ ρ h H d x ds xs Q at_ rx ra p
  unfold idx1F at p
  split at p
  · split at p
    · rename_i pp ps q1 q2
      split at p
      · rename_i c
        split at p
        · rename_i j e
          obtain ⟨y, rfl, iy⟩ := ra.1.one
          have h1 := toPy_is at_ q1 iy
          have h2 := toPy_is at_ q2 rx.1
          obtain ⟨z, z1, z2, z3⟩ := fstEq_is e
          have fin := p ρ (.int (j : Nat)) H at_.refl is_int
          cases h2 with
          | lst s a => exact ⟨_, y, pp, ps, j, z, rfl, rfl, .lst s a, h1, c.1, c.2, z1, z2, z3, fin⟩
        · exact p.elim
      · exact p.elim
    · exact p.elim
  · exact p.elim
/-! ### methods by name -/
inductive Mt where
  | idx1 | app | pop0 | join | split | index | dget | dget1 | ext | popAt | ins | islower
def mtTab : List ((Str × Nat) × Mt) := [(("index", 1), .idx1), (("extend", 1), .ext), (("pop", 1), .popAt), (("insert", 2), .ins), (("islower", 0), .islower), (("append", 1), .app), (("pop", 0), .pop0), (("join", 1), .join), (("split", 1), .split), (("index", 2), .index), (("get", 2), .dget), (("get", 1), .dget1)]
def mtOf (x : Str) (n : Nat) : Option Mt := (mtTab.find? fun p => decide (p.1 = (x, n))).map (·.2)
theorem mtOf_mem {x : Str} {n : Nat} {b : Mt} (h : mtOf x n = some b) : ((x, n), b) ∈ mtTab := by
  unfold mtOf at h
  cases e : mtTab.find? fun p => decide (p.1 = (x, n)) with
  | none => rw [e] at h; cases h
  | some p =>
    rw [e] at h
    have h1 := List.mem_of_find?_eq_some e
    have h2 := List.find?_some e
    have h3 : p.1 = (x, n) := of_decide_eq_true h2
    have h4 : p.2 = b := by simpa using h
    rw [← h3, ← h4]; exact h1
def Mt.ty : Mt → String
  | .idx1 => "list"
  | .app => "list"
  | .pop0 => "list"
  | .join => "str"
  | .split => "str"
  | .index => "str"
  | .dget => "dict"
  | .dget1 => "dict"
  | .ext => "list"
  | .popAt => "list"
  | .ins => "list"
  | .islower => "str"
def Mt.f : Mt → D → List D → PH → Res D
  | .idx1 => idx1F
  | .app => appF
  | .pop0 => popF
  | .join => joinF
  | .split => splitF
  | .index => indexF
  | .dget => dgetF
  | .dget1 => dget1F
  | .ext => extF
  | .popAt => popAtF
  | .ins => insF
  | .islower => islowerF
theorem mtr_of {X : Cx} {id : String} {r : V → List V → Hp → VK → Prop} (h : MtM X id r) : MtR X id r := fun pins s σ H x xs v us Q I rx rs q => h pins s σ H x xs v us Q I rx rs q
theorem mt_ok {x : Str} {n : Nat} {b : Mt} (hu65 : X.A.units + 65 < cLine) (h : mtOf x n = some b) {o : Expr} {es : List Expr} {apos cpos : Pos} {mo : EM} {ma : AM} (hn : es.length = n) (ho : DE X W o mo) (ha : DA X W es ma) (hz : n = 0 → ma = nilA) (bo : baseOk o = true) (ns : noStars es = true) (hl : (apos.endLine == cpos.line) = true) :
    DE X W (.Call (.Attribute o x apos) es [] cpos) (mtE b.ty b.f mo ma) := by
  have hu : X.A.units + 1 < cLine := by omega
  have m := mtOf_mem h
  unfold mtTab at m
  simp only [List.mem_cons, List.not_mem_nil, or_false, Prod.mk.injEq] at m
  rcases m with ⟨⟨rfl, rfl⟩, rfl⟩ | ⟨⟨rfl, rfl⟩, rfl⟩ | ⟨⟨rfl, rfl⟩, rfl⟩ | ⟨⟨rfl, rfl⟩, rfl⟩ | ⟨⟨rfl, rfl⟩, rfl⟩ | ⟨⟨rfl, rfl⟩, rfl⟩ | ⟨⟨rfl, rfl⟩, rfl⟩ | ⟨⟨rfl, rfl⟩, rfl⟩ | ⟨⟨rfl, rfl⟩, rfl⟩ | ⟨⟨rfl, rfl⟩, rfl⟩ | ⟨⟨rfl, rfl⟩, rfl⟩ | ⟨⟨rfl, rfl⟩, rfl⟩
  · match es, hn with
    | [e], _ => exact de_mt PySem.F.plainAttrs_list PySem.F.slot_list_index PySem.F.type_list_index (mt_indexD hu65) o_idx1 ho ha bo ns hl (by simp)
  · match es, hn with
    | [e], _ => exact de_mt PySem.F.plainAttrs_list PySem.F.slot_list_extend PySem.F.type_list_extend (mtr_of mt_extend) o_ext ho ha bo ns hl (by simp)
  · match es, hn with
    | [e], _ => exact de_mt PySem.F.plainAttrs_list PySem.F.slot_list_pop PySem.F.type_list_pop (mtr_of mt_popAt) o_popAt ho ha bo ns hl (by simp)
  · match es, hn with
    | [e, e'], _ => exact de_mt PySem.F.plainAttrs_list PySem.F.slot_list_insert PySem.F.type_list_insert mt_insert o_ins ho ha bo ns hl (by simp)
  · match es, hn with
    | [], _ =>
      rw [hz rfl]
      exact de_mt0 PySem.F.plainAttrs_str PySem.F.slot_str_islower PySem.F.type_str_islower mt_islower o_islower ho bo hl
  · match es, hn with
    | [e], _ => exact de_mt PySem.F.plainAttrs_list PySem.F.slot_list_append PySem.F.type_list_append (mtr_of mt_append) o_app ho ha bo ns hl (by simp)
  · match es, hn with
    | [], _ =>
      rw [hz rfl]
      exact de_mt0 PySem.F.plainAttrs_list PySem.F.slot_list_pop PySem.F.type_list_pop (mtr_of mt_pop) o_pop ho bo hl
  · match es, hn with
    | [e], _ => exact de_mt PySem.F.plainAttrs_str PySem.F.slot_str_join PySem.F.type_str_join mt_join o_join ho ha bo ns hl (by simp)
  · match es, hn with
    | [e], _ => exact de_mt PySem.F.plainAttrs_str PySem.F.slot_str_split PySem.F.type_str_split mt_split o_split ho ha bo ns hl (by simp)
  · match es, hn with
    | [e, e'], _ => exact de_mt PySem.F.plainAttrs_str PySem.F.slot_str_index PySem.F.type_str_index mt_indexFrom o_index ho ha bo ns hl (by simp)
  · match es, hn with
    | [e, e'], _ => exact de_mt PySem.F.plainAttrs_dict PySem.F.slot_dict_get PySem.F.type_dict_get (mt_dget2 hu) o_dget ho ha bo ns hl (by simp)
  · match es, hn with
    | [e], _ => exact de_mt PySem.F.plainAttrs_dict PySem.F.slot_dict_get PySem.F.type_dict_get (mt_dget1 hu) o_dget1 ho ha bo ns hl (by simp)
/-! ### d.get(k, x), d a dict of the module -/
def dGt (l : List (Str × D)) (m : AM) : EM := fun e h => (m e h).bind fun ds h1 => match ds with
  | [.str z, d] => .ok ((l.lookup z).getD d) h1
  | _ => .stuck
theorem t_kget {K : KX} {w : World} {mg : Str → Option Value} {x : Str} {l : List (Str × D)} (k : DicOk w K mg x l) {m : AM} {σ : L2.St} {H : Hp} {Q : VK} (t : tE K W (dGt l m) σ H Q) :
    tA K W m σ H fun vs H1 => ∃ z v0 r, vs = [.str z, v0] ∧ PySem.W.nsIn K (He.ga K x) z = some r ∧ ∀ d0 u, RelV v0 u → d0 = r.getD u → ∃ v, RelV v d0 ∧ Q v H1 := by
  obtain ⟨ρ, env, h, rl, p⟩ := t
  refine tG_mono (PostG.bind (R := RL K) rl p) fun b H1 ⟨ρ1, h1, a1, x1, ra1, p1⟩ => ?_
  split at p1
  · rename_i z d
    obtain ⟨b1, b2, rfl, i1, i2⟩ := ra1.1.two
    have e1 : b1 = .str z := by unfold Is at i1; exact i1
    subst e1
    have lw : mrL [.str z, d] ≤ h1.cs.length := ra1.2
    unfold mrL mrL at lw
    cases q : l.lookup z with
    | none =>
      rw [q] at p1
      exact ⟨z, b2, none, rfl, k.not_ z q, fun d0 u ru e => ⟨b2, by rw [e]; exact ru, p1 ρ1 b2 H1 x1.at.refl ⟨i2, by show d.mr ≤ _; omega⟩⟩⟩
    | some dd =>
      rw [q] at p1
      obtain ⟨u1, v, n1, rv, is, m0⟩ := k.there z dd q
      exact ⟨z, b2, some u1, rfl, n1, fun d0 u ru e => ⟨v, by rw [e]; exact rv, p1 ρ1 v H1 x1.at.refl ⟨is _ _ ρ1 H1, by show dd.mr ≤ _; rw [m0]; exact Nat.zero_le _⟩⟩⟩
  · exact p1.elim
theorem de_kget {x : Str} {l : List (Str × D)} {e1 e2 : Expr} {p apos cpos : Pos} {ma : AM} (k : DicOk X.w X.K X.mg x l) (hg : Gl X x) (hdb : (x == ("__debug__" : Str)) = false) (ha : DA X W [e1, e2] ma) (ns : noStars [e1, e2] = true) (hl : (apos.endLine == cpos.line) = true) :
    DE X W (.Call (.Attribute (.Name x p) "get" apos) [e1, e2] [] cpos) (dGt l ma) := by
  refine ⟨fun pins s σ H Q I h => ?_⟩
  obtain ⟨es, n, kd⟩ := k.kd
  have ha' := t_kget (K := kx X W) (w := X.w) k h
  refine wpAny_Call_method_late (baseOk_is rfl _ _ _) (by rw [noStars_all ns cpos X.env]; rfl) hl rfl (thn ((pe_glob (pos := p) (v := .ref (He.ga X.K x)) hg k.mg rfl hdb).run pins s σ H (fun v H1 => v = .ref (He.ga X.K x) ∧ H1 = H) I ⟨rfl, rfl⟩) fun u s1 ⟨v, H1, I1, r1, ev, eH⟩ => ?_)
  subst ev
  subst eH
  obtain rfl : u = Value.ref (He.ga X.K x) := r1
  have hm := PySem.W.mapOf_K (prog := X.prog) (w := X.w) I1.kIn kd.at_ kd.lit
  refine ⟨"dict", "dict.get", PySem.F.plainAttrs_dict, PySem.F.slot_dict_get, PySem.F.type_dict_get, hm.typeIs, fun a ea => ?_, ?_⟩
  · cases ea
    exact ⟨_, I1.kIn _ _ kd.at_, rfl⟩
  have hA := ha.run cpos pins s1 σ H1 _ I1 ha'
  rw [star_no (noStars_head ns).1 [e2] X.env] at hA ⊢
  refine Calls.callWith_builtin (by show (false || (backTo cpos (starEach [e2] X.env)).any (·.1)) = false; rw [noStars_any (noStars_head ns).2 cpos X.env] <;> rfl) (Calls.evalArgs_plain ?_)
  refine thn hA fun us s2 ⟨vs, H2, I2, r2, z, v0, r, ev, nz, q⟩ => ?_
  subst ev
  obtain ⟨u1, u2, rfl, ru1, ru2⟩ := Vals.two r2
  obtain ⟨t, rfl⟩ := (show ∃ t, u1 = Value.str z t from ru1)
  have hm2 := PySem.W.mapOf_K (prog := X.prog) (w := X.w) I2.kIn kd.at_ kd.lit
  obtain ⟨v, rv, qv⟩ := q _ u2 ru2 rfl
  refine call_meetsIn PySem.F.slot_dict_get hm2.typeIs PySem.F.entry_dict_get (PySem.F.args_dict_get_3 _ _ _) (meets_dict_get_default (strKind X.prog X.w) (He.ga X.K x) (strKind_is X.prog X.w z t) kd.low u2) ⟨_, hm2, ?_⟩
  rw [PySem.W.find_K kd.at_ nz]
  exact ⟨v, H2, I2.tok _, rv, qv⟩
end
end Dy

/-! The compiler of expressions, and that it is right. -/
namespace Dy
open PySem PySem.Spec PyProof.Rows L2
/-- the block of a comprehension -/
def blkSC (g : SC) (scope : Scope) : SC := { g with sc := relS scope g.sc, top := false, hx := none, stm := false, fnc := fun x => scope.names.lookup x == some .cell }
def ownOf (g : SC) (scope : Scope) : List (Str × Nat) := scope.names.filterMap fun p => match p.2 with
  | .local => (ixOf g.N p.1).map fun i => (p.1, i)
  | .cell => (ixOf g.N p.1).map fun i => (p.1, i)
  | _ => none
/-- the names of targets -/
def nameSlots (g : SC) : List Expr → Option (List Nat)
  | [] => some []
  | .Name x _ :: r => (match sslot g x with
    | some i => (match nameSlots g r with
      | some l => some (i :: l)
      | none => none)
    | none => none)
  | _ :: _ => none
def cTgt (g : SC) : Expr → Option Tgt
  | .Name x _ => (match sslot g x with
    | some i => some (.one i)
    | none => none)
  | .Tuple ts _ _ => if g.calm = true then (match nameSlots g ts with
    | some l => some (.many l)
    | none => none) else none
  | _ => none
/-- the slot that an except suite holds is not stored to -/
def hxFree (g : SC) (t : Tgt) : Bool := match g.hx with
  | none => true
  | some (i, _) => !(t.slots.contains i)
def cA (f : Expr → EM) : List Expr → AM
  | [] => nilA
  | e :: es => if isStar e = true then stuckA else consA (f e) (cA f es)
def cAnds (f : Expr → TM) : List Expr → TM
  | [] => stuckT
  | [a] => f a
  | a :: b :: r => andT (f a) (cAnds f (b :: r))
def cOrs (f : Expr → TM) : List Expr → TM
  | [] => stuckT
  | [a] => f a
  | a :: b :: r => orT (f a) (cOrs f (b :: r))
def cAndE (f : Expr → EM) : List Expr → EM
  | [] => stuckE
  | [a] => f a
  | a :: b :: r => andE (f a) (cAndE f (b :: r))
def cOrE (f : Expr → EM) : List Expr → EM
  | [] => stuckE
  | [a] => f a
  | a :: b :: r => orE (f a) (cOrE f (b :: r))
def cO (f : Expr → EM) : Option Expr → OM
  | none => noO
  | some e => someO (f e)
def cConst : Const → EM
  | .int i => cE (.int i)
  | .bool b => cE (.bl b)
  | .str x => cE (.str x)
  | .none => cE .non
  | _ => stuckE
/-- xs[::-1] -/
def isRev : Option Expr → Option Expr → Option Expr → Bool
  | none, none, some (.UnaryOp .USub (.Constant (.int 1) _ _) _) => true
  | _, _, _ => false
def cSub0 (f : Expr → EM) (a : Expr) : Expr → EM
  | .Slice lo hi st _ => (match st with
    | none => slE (f a) (cO f lo) (cO f hi)
    | some _ => if isRev lo hi st = true then u1E revF (f a) else stuckE)
  | i => b2E ixF (f a) (f i)
def cSub (g : SC) (f : Expr → EM) (a i : Expr) : EM := match dicOf g a with
  | some (x, l) => if isSlice i = true then stuckE else b2E (dIx x l) (cE (.glb x)) (f i)
  | none => cSub0 f a i
/-- .. with a dict of the module -/
def cCmpD (g : SC) (f : Expr → EM) (a : Expr) : CmpOp → Expr → Option EM
  | .In, b => (match dicOf g b with
    | some (x, l) => some (b2E (dIn x l) (f a) (cE (.glb x)))
    | none => none)
  | .NotIn, b => (match dicOf g b with
    | some (x, l) => some (b2E (dNotIn x l) (f a) (cE (.glb x)))
    | none => none)
  | _, _ => none
/-- a comparison -/
def cCmp (g : SC) (f : Expr → EM) (a : Expr) : List CmpOp → List Expr → EM
  | [op], [b] => if behindInMarks op b = true then stuckE else (match cCmpD g f a op b with
    | some m => m
    | none => (match cmpF op with
      | some k => b2E k (f a) (f b)
      | none => stuckE))
  | [op, op', op2], [b, c, d] => if behindInMarks op2 d = true then stuckE else (match cmpF op with
    | some k => (match cmpF op' with
      | some l => (match cmpF op2 with
        | some m => ch3E k l m (f a) (f b) (f c) (f d)
        | none => stuckE)
      | none => stuckE)
    | none => stuckE)
  | [op, op'], [b, c] => if behindInMarks op' c = true then stuckE else (match cmpF op with
    | some k => (match cmpF op' with
      | some l => chE k l (f a) (f b) (f c)
      | none => stuckE)
    | none => stuckE)
  | _, _ => stuckE
/-- isinstance(e, y), e what the suite holds -/
def cIsE (g : SC) (args : List Expr) : Option EM := match g.hx with
  | none => none
  | some (i, c) => (match args with
    | [.Name n _, .Name y _] => if slot g n = some i ∧ okName n = true ∧ okName y = true ∧ isGl g y = true ∧ isGl g "isinstance" = true ∧ g.T.free "isinstance" = true then (match g.T.sub c y with
      | some b => some (cE (.bl b))
      | none => (match g.T.subT c y with
        | some b => some (cE (.bl b))
        | none => none)) else none
    | _ => none)
/-- x(e), e what the suite holds -/
def cHot (g : SC) (x : Str) (args : List Expr) : Option EM := match g.T.hot x with
  | none => none
  | some f => (match g.hx with
    | none => none
    | some (i, c) => (match args with
      | [.Name n _] => if slot g n = some i ∧ okName n = true ∧ okName x = true ∧ isGl g x = true then some (hotE (f c)) else none
      | _ => none))
def cCall (g : SC) (f : Expr → EM) (x : Str) (args : List Expr) : EM := match (if x = "isinstance" then cIsE g args else cHot g x args) with
  | some m => m
  | none => match slot g x with
    | some i => if okName x = true ∧ g.calm = true ∧ noStars args = true then callVF g.T.fn (vE i) (cA f args) else stuckE
    | none => if okName x = true ∧ isGl g x = true ∧ noStars args = true then (match g.T.fn x with
    | some (n, k) => if g.calm = true then (match args with
      | [] => if n = 0 then nA (callF 0 k) nilA else stuckE
      | _ :: _ => nA (callF n k) (cA f args)) else stuckE
    | none => match g.T.mkr x with
      | some (n, k) => if g.calm = true then (match args with
        | [] => mkE x n k nilA
        | _ :: _ => mkE x n k (cA f args)) else stuckE
      | none => if g.T.gcd x = true then (match args with
      | [] => stuckE
      | _ :: _ => nA (f2 gcdF) (cA f args)) else if g.T.free x = true then (match args with
      | [] => stuckE
      | _ :: _ => (match biOf x args.length with
        | some b => if b.calm = false ∨ g.calm = true then nA b.fn (cA f args) else stuckE
        | none => stuckE)) else stuckE) else stuckE
def cMeth (g : SC) (f : Expr → EM) (o : Expr) (m : Str) (apos cpos : Pos) (args : List Expr) : EM := match dicOf g o with
  | some (x, l) => if m = "get" ∧ noStars args = true ∧ (apos.endLine == cpos.line) = true then (match args with
    | [a, b] => dGt l (cA f [a, b])
    | _ => stuckE) else stuckE
  | none => if baseOk o = true ∧ noStars args = true ∧ (apos.endLine == cpos.line) = true then (match mtOf m args.length with
    | some b => mtE b.ty b.f (f o) (cA f args)
    | none => if g.calm = true ∧ args.length < 30 then (match args with
      | [] => methE g.T.mth m (f o) nilA
      | _ :: _ => methE g.T.mth m (f o) (cA f args)) else stuckE) else stuckE
def cIter (g : SC) (f : Expr → EM) (e : Expr) : IM := match e with
  | .Call (.Name x _) args [] _ => if okName x = true ∧ isGl g x = true ∧ g.T.free x = true ∧ g.T.fn x = none ∧ noStars args = true ∧ (x = "range" ∨ x = "reversed") then
      (if x = "range" then (match args with
        | [a] => rngE rangeF1 (cA f [a])
        | [a, b] => rngE rangeF2 (cA f [a, b])
        | [a, b, c] => rngE rangeF3 (cA f [a, b, c])
        | _ => stuckI) else (match args with
        | [a] => revE (f a)
        | _ => stuckI)) else srcE (f e)
  | .Set _ _ _ => stuckI
  | e => srcE (f e)
def cTs (t : Expr → TM) : List Expr → TM
  | [] => yesT
  | [c] => t c
  | _ => stuckT
def isSet : Expr → Bool
  | .Set _ _ _ => true
  | _ => false
/-- a comprehension: f, t work in its block -/
def cComp (g : SC) (fi : Expr → EM) (f : Expr → EM) (t : Expr → TM) (elt : Expr) (gs : List Comprehension) (scope : Scope) : EM := match gs with
  | [⟨tg, iter, ifs, as⟩] => if as = 0 ∧ g.calm = true ∧ isSet iter = false ∧ blkC g.N g.sc scope (ownOf g scope) = true then (match cTgt (blkSC g scope) tg with
    | some tt => if (tt.slots.all fun i => ((ownOf g scope).map (·.2)).contains i) = true then (if g.top = true then compXE (cIter g fi iter) ((ownOf g scope).map (·.2)) tt (cTs t ifs) (f elt) else compE (cIter g fi iter) ((ownOf g scope).map (·.2)) tt (cTs t ifs) (f elt)) else stuckE
    | none => stuckE) else stuckE
  | _ => stuckE
/-! ### f-strings -/
def nilJ (acc : Str) : EM := fun _ h => .ok (.str acc) h
def consJ (a : EM) (r : Str → EM) (acc : Str) : EM := fun e h => (a e h).bind fun x h1 => match x with
  | .str y => if (acc ++ y).length ≤ 16777216 then r (acc ++ y) e h1 else .stuck
  | _ => .stuck
def cJ (f : Expr → EM) : List Expr → Str → EM
  | [] => nilJ
  | e :: es => consJ (f e) (cJ f es)
section
variable {X : Cx} {W : WJ}
theorem pj_all {f : Expr → EM} (hf : ∀ e, DE X W e (f e)) : ∀ es : List Expr, PJ X es (es.map fun e => tE (kx X W) W (f e))
  | [] => .nil
  | e :: es => .cons (hf e) (pj_all hf es)
theorem t_js {K : KX} {f : Expr → EM} {σ : L2.St} {Q : VK} : ∀ (es : List Expr) (acc : Str) (H : Hp), tE K W (cJ f es acc) σ H Q → tJs (es.map fun e => tE K W (f e)) acc σ H (fun out H1 => Q (.str out) H1)
  | [], acc, H, ⟨ρ, env, h, r, p⟩ => p ρ (.str acc) H r.refl is_str
  | e :: es, acc, H, ⟨ρ, env, h, rl, p⟩ => by
    refine tG_mono (PostG.bind (R := RD K) rl p) fun b H1 ⟨ρ1, h1, a1, x1, ra1, p1⟩ => ?_
    split at p1
    · rename_i y
      split at p1
      · rename_i c
        exact ⟨y, ra1.1.str, by rw [sizeLine_eq]; exact c, t_js es (acc ++ y) H1 ⟨ρ1, env, h1, rl.ext x1, p1⟩⟩
      · exact p1.elim
    · exact p1.elim
theorem de_fmt {e : Expr} {pos : Pos} {m : EM} (he : DE X W e m) : DE X W (.FormattedValue e (-1) none pos) (u1E fmtF m) :=
  pe_imp (pe_fmt he) fun σ H Q t => t_u1 (o_fmt) t
theorem de_joined {a b : Expr} {es : List Expr} {pos : Pos} {f : Expr → EM} (hf : ∀ e, DE X W e (f e)) : DE X W (.JoinedStr (a :: b :: es) pos) (cJ f (a :: b :: es) Str.empty) :=
  pe_imp (pe_joined (pj_all hf (a :: b :: es))) fun σ H Q t => t_js (a :: b :: es) Str.empty H t
end
def cDict (f : Expr → EM) (ks : List (Option Expr)) (vs : List Expr) : EM := match ks, vs with
  | [], [] => dnewE
  | ks, vs => match dispC ks vs with
    | some l => if l.length ≤ 15 ∧ l ≠ [] then dictE l else stuckE
    | none => (match keysC ks with
      | some l => if l.length = vs.length ∧ ks.length ≤ 15 ∧ ks.isEmpty = false then dispE l (conA f vs) else stuckE
      | none => stuckE)
mutual
def cEx : Nat → SC → Expr → EM
  | 0, _, _ => stuckE
  | n + 1, g, .Constant c _ _ => cConst c
  | n + 1, g, .Name x _ => cName g x
  | n + 1, g, .BinOp a op b _ => (match binF op with
    | some f => b2E f (cEx n g a) (cEx n g b)
    | none => stuckE)
  | n + 1, g, .UnaryOp op a _ => (match op with
    | .USub => u1E negF (cEx n g a)
    | .Not => u1E notF (cEx n g a)
    | _ => stuckE)
  | n + 1, g, .BoolOp op es _ => (match op with
    | .And => cAndE (cEx n g) es
    | .Or => cOrE (cEx n g) es)
  | n + 1, g, .IfExp c a b _ => ifE (cTx n g c) (cEx n g a) (cEx n g b)
  | n + 1, g, .Compare a ops bs _ => cCmp g (cEx n g) a ops bs
  | n + 1, g, .Tuple es _ _ => nA tupF (cA (cEx n g) es)
  | n + 1, g, .List es _ => nA lstF (cA (cEx n g) es)
  | n + 1, g, .Subscript a i _ => cSub g (cEx n g) a i
  | n + 1, g, .Call fn args ks cpos => (match fn, ks with
    | .Name x _, [] => cCall g (cEx n g) x args
    | .Attribute o m apos, [] => cMeth g (cEx n g) o m apos cpos args
    | .Subscript a i p, [] => if g.calm = true ∧ noStars args = true then callVF g.T.fn (cEx n g (.Subscript a i p)) (cA (cEx n g) args) else stuckE
    | _, _ => stuckE)
  | n + 1, g, .Attribute o f _ => if baseOk o = true then u1E (fldF g.T.fld f) (cEx n g o) else stuckE
  | n + 1, g, .Dict ks vs _ => cDict (cEx n g) ks vs
  | n + 1, g, .ListComp elt gs scope _ => cComp g (cEx n g) (cEx n (blkSC g scope)) (cTx n (blkSC g scope)) elt gs scope
  | n + 1, g, .FormattedValue e conv none _ => if conv = -1 then u1E fmtF (cEx n g e) else stuckE
  | n + 1, g, .JoinedStr es _ => (match es with
    | a :: b :: r => cJ (cEx n g) (a :: b :: r) Str.empty
    | _ => stuckE)
  | _ + 1, _, _ => stuckE
def cTx : Nat → SC → Expr → TM
  | 0, _, _ => stuckT
  | n + 1, g, .UnaryOp .Not a _ => notT (cTx n g a)
  | n + 1, g, .BoolOp op es _ => (match op with
    | .And => cAnds (cTx n g) es
    | .Or => cOrs (cTx n g) es)
  | n + 1, g, .Compare a ops bs _ => tbT (cCmp g (cEx n g) a ops bs)
  | n + 1, g, .IfExp c a b _ => ifT (cTx n g c) (cTx n g a) (cTx n g b)
  | n + 1, g, e => trT (cEx n g e)
end
section
variable {X : Cx} {W : WJ} {g : SC}
theorem s_cA {f : Expr → EM} (hf : ∀ e, DE X W e (f e)) : ∀ es : List Expr, DA X W es (cA f es)
  | [] => da_nil
  | e :: es => by
    unfold cA
    split
    · exact da_stuck
    · rename_i h
      exact da_cons (by cases q : isStar e <;> simp_all) (hf e) (s_cA hf es)
theorem s_ands {t : Expr → TM} (ht : ∀ e, DT X W e (t e)) (pos : Pos) : ∀ (a : Expr) (es : List Expr), DW X W (.BoolOp .And (a :: es) pos) (cAnds t (a :: es))
  | a, [] => dw_and1 (ht a)
  | a, b :: r => dw_and (ht a) (s_ands ht pos b r)
theorem s_ors {t : Expr → TM} (ht : ∀ e, DT X W e (t e)) (pos : Pos) : ∀ (a : Expr) (es : List Expr), DW X W (.BoolOp .Or (a :: es) pos) (cOrs t (a :: es))
  | a, [] => dw_or1 (ht a)
  | a, b :: r => dw_or (ht a) (s_ors ht pos b r)
theorem s_andE {t : Expr → EM} (ht : ∀ e, DE X W e (t e)) (pos : Pos) : ∀ (a : Expr) (es : List Expr), DE X W (.BoolOp .And (a :: es) pos) (cAndE t (a :: es))
  | a, [] => de_one (ht a)
  | a, b :: r => de_and (ht a) (s_andE ht pos b r)
theorem s_orE {t : Expr → EM} (ht : ∀ e, DE X W e (t e)) (pos : Pos) : ∀ (a : Expr) (es : List Expr), DE X W (.BoolOp .Or (a :: es) pos) (cOrE t (a :: es))
  | a, [] => de_one (ht a)
  | a, b :: r => de_or (ht a) (s_orE ht pos b r)
theorem s_cO {f : Expr → EM} (hf : ∀ e, DE X W e (f e)) : ∀ o : Option Expr, DO X W o (cO f o)
  | none => do_none
  | some e => do_some (hf e)
theorem s_const (c : Const) (k : Nat) (pos : Pos) : DE X W (.Constant c k pos) (cConst c) := by
  cases c with
  | int i => exact de_const pe_int (fun ρ H => by unfold Is; rfl) rfl
  | bool i => exact de_const pe_bl (fun ρ H => by unfold Is; rfl) rfl
  | str i => exact de_const pe_str (fun ρ H => by unfold Is; rfl) rfl
  | none => exact de_const pe_non (fun ρ H => by unfold Is; rfl) rfl
  | _ => exact de_stuck
theorem bfalse {b : Bool} (h : ¬ b = true) : b = false := by cases b <;> simp_all
theorem s_cmpD {f : Expr → EM} (c : CxOk g X W) (hf : ∀ e, DE X W e (f e)) {a b : Expr} {op : CmpOp} {pos : Pos} {m : EM} (hm : behindInMarks op b = false) (h : cCmpD g f a op b = some m) : DE X W (.Compare a [op] [b] pos) m ∧ DT X W (.Compare a [op] [b] pos) (tbT m) := by
  unfold cCmpD at h
  split at h
  · split at h
    · rename_i x l q
      cases h
      obtain ⟨p, e, k, de⟩ := dicOf_is c q
      obtain ⟨es, n, kd⟩ := k.kd
      exact ⟨de_cmp (op_in_kd kd) (o_dIn k) (hf a) de hm, dt_cmp (op_in_kd kd) (o_dIn k) (hf a) de hm⟩
    · cases h
  · split at h
    · rename_i x l q
      cases h
      obtain ⟨p, e, k, de⟩ := dicOf_is c q
      obtain ⟨es, n, kd⟩ := k.kd
      exact ⟨de_cmp (op_notIn_kd kd) (o_dNotIn k) (hf a) de hm, dt_cmp (op_notIn_kd kd) (o_dNotIn k) (hf a) de hm⟩
    · cases h
  · cases h
theorem s_cmp {f : Expr → EM} (c : CxOk g X W) (hf : ∀ e, DE X W e (f e)) (a : Expr) (ops : List CmpOp) (bs : List Expr) (pos : Pos) : DE X W (.Compare a ops bs pos) (cCmp g f a ops bs) := by
  unfold cCmp
  split
  · split
    · exact de_stuck
    · rename_i h
      split
      · rename_i m e
        exact (s_cmpD c hf (bfalse h) e).1
      · split
        · rename_i k e
          obtain ⟨r, h1, h2⟩ := cmpF_ok c e
          exact de_cmp h1 h2 (hf a) (hf _) (bfalse h)
        · exact de_stuck
  · split
    · exact de_stuck
    · rename_i h
      split
      · rename_i k e
        split
        · rename_i l e'
          split
          · rename_i m e2
            obtain ⟨r, h1, h2⟩ := cmpF_ok c e
            obtain ⟨r', h3, h4⟩ := cmpF_ok c e'
            obtain ⟨r2, h5, h6⟩ := cmpF_ok c e2
            exact de_ch3 h1 h3 h5 h2 h4 h6 (hf a) (hf _) (hf _) (hf _) (bfalse h)
          · exact de_stuck
        · exact de_stuck
      · exact de_stuck
  · split
    · exact de_stuck
    · rename_i h
      split
      · rename_i k e
        split
        · rename_i l e'
          obtain ⟨r, h1, h2⟩ := cmpF_ok c e
          obtain ⟨r', h3, h4⟩ := cmpF_ok c e'
          exact de_ch h1 h3 h2 h4 (hf a) (hf _) (hf _) (bfalse h)
        · exact de_stuck
      · exact de_stuck
  · exact de_stuck
theorem t_stuckT {e : Expr} : DT X W e (tbT stuckE) := ⟨fun _ _ _ _ _ _ ⟨_, _, _, _, p⟩ => False.elim p⟩
theorem s_cmpT {f : Expr → EM} (c : CxOk g X W) (hf : ∀ e, DE X W e (f e)) (a : Expr) (ops : List CmpOp) (bs : List Expr) (pos : Pos) : DT X W (.Compare a ops bs pos) (tbT (cCmp g f a ops bs)) := by
  unfold cCmp
  split
  · split
    · exact t_stuckT
    · rename_i h
      split
      · rename_i m e
        exact (s_cmpD c hf (bfalse h) e).2
      · split
        · rename_i k e
          obtain ⟨r, h1, h2⟩ := cmpF_ok c e
          exact dt_cmp h1 h2 (hf a) (hf _) (bfalse h)
        · exact t_stuckT
  · split
    · exact t_stuckT
    · rename_i h
      split
      · rename_i k e
        split
        · rename_i l e'
          split
          · rename_i m e2
            obtain ⟨r, h1, h2⟩ := cmpF_ok c e
            obtain ⟨r', h3, h4⟩ := cmpF_ok c e'
            obtain ⟨r2, h5, h6⟩ := cmpF_ok c e2
            exact dt_ch3 h1 h3 h5 h2 h4 h6 (hf a) (hf _) (hf _) (hf _) (bfalse h)
          · exact t_stuckT
        · exact t_stuckT
      · exact t_stuckT
  · split
    · exact t_stuckT
    · rename_i h
      split
      · rename_i k e
        split
        · rename_i l e'
          obtain ⟨r, h1, h2⟩ := cmpF_ok c e
          obtain ⟨r', h3, h4⟩ := cmpF_ok c e'
          exact dt_ch h1 h3 h2 h4 (hf a) (hf _) (hf _) (bfalse h)
        · exact t_stuckT
      · exact t_stuckT
  · exact t_stuckT
theorem s_sub0 {f : Expr → EM} (hu : X.A.units + 9 < cLine) (hf : ∀ e, DE X W e (f e)) (a i : Expr) (pos : Pos) : DE X W (.Subscript a i pos) (cSub0 f a i) := by
  cases i with
  | Slice lo hi st p =>
    cases st with
    | none => exact de_sl (hf a) (s_cO hf lo) (s_cO hf hi)
    | some e =>
      show DE X W _ (if isRev lo hi (some e) = true then u1E revF (f a) else stuckE)
      split
      · rename_i h
        unfold isRev at h
        split at h
        · rename_i e'
          cases e'
          exact de_rev (hf a)
        · cases h
      · exact de_stuck
  | _ => exact de_ix hu rfl (hf a) (hf _)
theorem s_sub {f : Expr → EM} (c : CxOk g X W) (hf : ∀ e, DE X W e (f e)) (a i : Expr) (pos : Pos) : DE X W (.Subscript a i pos) (cSub g f a i) := by
  unfold cSub
  split
  · rename_i x l q
    obtain ⟨p, e, k, de⟩ := dicOf_is c q
    split
    · exact de_stuck
    · rename_i h
      exact pe_imp (pe_ix ix_kdict de (hf i) (plainIx_of (bfalse h))) fun σ H Q t => t_b2 (o_dIx k) t
  · exact s_sub0 (by have := c.units; omega) hf a i pos
theorem s_callV {f : Expr → EM} (c : CxOk g X W) (hc : g.calm = true) {fn : Expr} {mo : EM} (ho : DE X W fn mo) (hf : ∀ e, DE X W e (f e)) (args : List Expr) {pos : Pos} (ns : noStars args = true) (hca : CallAs X fn args pos) : DE X W (.Call fn args [] pos) (callVF g.T.fn mo (cA f args)) := by
  obtain ⟨x1, x2, x3, x4⟩ := c.calm hc
  obtain ⟨w, hx⟩ := W
  have x2 : hx = none := x2
  subst x2
  cases args with
  | nil => exact de_callV0 c.tab.fn x4 c.tk ho hca
  | cons e es => exact de_callV c.tab.fn x4 c.tk ho (s_cA hf (e :: es)) ns hca
theorem s_call {f : Expr → EM} (c : CxOk g X W) (hf : ∀ e, DE X W e (f e)) (x : Str) (args : List Expr) (p pos : Pos) : DE X W (.Call (.Name x p) args [] pos) (cCall g f x args) := by
  unfold cCall
  split
  · rename_i m e
    split at e
    · rename_i ex
      subst ex
      unfold cIsE at e
      split at e
      · cases e
      · rename_i i cn hh
        split at e
        · rename_i n np y yp
          split at e
          · rename_i cc
            obtain ⟨c1, c2, c3, c4, c5, c6⟩ := cc
            split at e
            · rename_i b sb
              cases e
              obtain ⟨a, oe, w1, hz, hv, hp⟩ := c.hx i cn hh
              obtain ⟨h1, h2⟩ := slot_is c c1
              obtain ⟨o1, o2, o3⟩ := okName_is c2
              obtain ⟨q1, q2, q3⟩ := okName_is c3
              obtain ⟨k1, k2, k3, k4⟩ := c.tab.sub cn y b sb
              have hc : CallR X (.builtin "isinstance") (rIsE X.K (He.ga X.K cn) a) := by
                exact call_isP k4 hz hv hp
              have pe := pe_callB (p := p) (pos := pos) hc (gl_is c c5) (c.tab.free _ c6) (by decide +kernel) (pa_cons (pe_var (pos := np) h1 h2 o1 o2) (pa_cons (pe_glob (pos := yp) (v := .ref (He.ga X.K y)) (gl_is c c4) k1 rfl q1) pa_nil (by rfl)) (by rfl)) (by decide) (by decide) (by rfl) (by rfl)
              refine pe_imp pe fun σ H Q ⟨ρ, env, h, rl, p⟩ => ?_
              have inv := rl.eis.inv
              have e1 : (kx X W).hx = some (i, a) := w1
              have e2 : σ[i]? = some (some (.ref a)) := by
                unfold KX.J at inv
                rw [e1] at inv
                exact inv
              refine ⟨_, e2, .ref (He.ga X.K y), .ref (He.ga X.K y), b, rfl, fun u hu => hu, k3, ?_⟩
              exact p ρ (.bl b) H rl.refl is_bl
            · split at e
              · rename_i b sb
                cases e
                obtain ⟨a, oe, w1, hz, hv, hp⟩ := c.hx i cn hh
                obtain ⟨h1, h2⟩ := slot_is c c1
                obtain ⟨o1, o2, o3⟩ := okName_is c2
                obtain ⟨q1, q2, q3⟩ := okName_is c3
                obtain ⟨k1, rfl, k3, k4⟩ := c.tab.subT cn y b sb
                have hc : CallR X (.builtin "isinstance") (rIsE X.K (He.ga X.K cn) a) := by
                  exact call_isP k4 hz hv hp
                have pe := pe_callB (p := p) (pos := pos) hc (gl_is c c5) (c.tab.free _ c6) (by decide +kernel) (pa_cons (pe_var (pos := np) h1 h2 o1 o2) (pa_cons (pe_bltn (pos := yp) (v := .ty "ValueError") (gl_is c c4) k1 (by decide +kernel) rfl q3 q1) pa_nil (by rfl)) (by rfl)) (by decide) (by decide) (by rfl) (by rfl)
                refine pe_imp pe fun σ H Q ⟨ρ, env, h, rl, p⟩ => ?_
                have inv := rl.eis.inv
                have e1 : (kx X W).hx = some (i, a) := w1
                have e2 : σ[i]? = some (some (.ref a)) := by
                  unfold KX.J at inv
                  rw [e1] at inv
                  exact inv
                refine ⟨_, e2, .ty "ValueError", .type "ValueError", b, rfl, fun u hu => hu, k3, ?_⟩
                exact p ρ (.bl b) H rl.refl is_bl
              · cases e
          · cases e
        · cases e
    · unfold cHot at e
      split at e
      · cases e
      · rename_i fh hh
        split at e
        · cases e
        · rename_i i cn hc
          split at e
          · rename_i n np
            split at e
            · rename_i cc
              obtain ⟨c1, c2, c3, c4⟩ := cc
              cases e
              obtain ⟨a, oe, w1, hz, hv, hp⟩ := c.hx i cn hc
              obtain ⟨h1, h2⟩ := slot_is c c1
              obtain ⟨o1, o2, o3⟩ := okName_is c2
              obtain ⟨q1, q2, q3⟩ := okName_is c3
              obtain ⟨a', fd, y, t1, t2, t3, t4⟩ := c.tab.hot x fh hh
              exact de_hot (t4 cn) c.rm (gl_is c c4) t1 t2 t3 c.tk q1 w1 hz hv hp h1 h2 o1 o2
            · cases e
          · cases e
  · split
    · rename_i i hi
      split
      · rename_i cc
        obtain ⟨c1, c2, c3⟩ := cc
        obtain ⟨h1, h2⟩ := slot_is c hi
        obtain ⟨o1, o2, o3⟩ := okName_is c1
        exact s_callV c c2 (de_var (pe_var (pos := p) h1 h2 o1 o2)) hf args c3 fun s Q h => wpAny_Call_Name_kw h
      · exact de_stuck
    · split
      · rename_i cc
        obtain ⟨c1, c2, c3⟩ := cc
        obtain ⟨o1, o2, o3⟩ := okName_is c1
        split
        · rename_i n k e
          split
          · rename_i hc
            obtain ⟨x1, x2, x3, x4⟩ := c.calm hc
            obtain ⟨w, hx⟩ := W
            have x2 : hx = none := x2
            subst x2
            obtain ⟨a, fd, ps, t1, t2, t3, t4, t5⟩ := c.tab.fn x n k e
            cases args with
            | nil =>
              dsimp only
              split
              · rename_i hn
                subst hn
                exact de_call0 t4 x4 (gl_is c c2) t1 t2 t3 c.tk o1
              · exact de_stuck
            | cons e1 es => exact de_call t4 x4 (gl_is c c2) t1 t2 t3 c.tk (s_cA hf (e1 :: es)) o1 c3
          · exact de_stuck
        · split
          · rename_i n k e
            split
            · rename_i hc
              obtain ⟨x1, x2, x3, x4⟩ := c.calm hc
              obtain ⟨w, hx⟩ := W
              have x2 : hx = none := x2
              subst x2
              obtain ⟨m1, j, a, fd, ps, hj, M, b, F⟩ := c.tab.mkr x n k e
              cases args with
              | nil => exact de_make0 M F (x4.mono hj) (gl_is c c2) m1 b c.tk o1
              | cons e1 es => exact de_make M F (x4.mono hj) (gl_is c c2) m1 b c.tk (s_cA hf (e1 :: es)) o1 c3
            · exact de_stuck
          split
          · rename_i hg
            cases args with
            | nil => exact de_stuck
            | cons e1 es => exact pe_imp (pe_callBfun cr_gcd (gl_is c c2) (c.tab.gcd x hg) (s_cA hf (e1 :: es)) o1 (star_no (noStars_head c3).1 es _) (noStars_any (noStars_head c3).2 pos _)) fun σ H Q t => t_nA o_gcd t
          split
          · rename_i hfree
            cases args with
            | nil => exact de_stuck
            | cons e1 es =>
              dsimp only
              split
              · rename_i b e
                split
                · rename_i hb
                  refine bi_ok c.units e (fun hk => ?_) (gl_is c c2) (c.tab.free x hfree) o3 o1 p pos e1 es _ (s_cA hf (e1 :: es)) c3
                  rcases hb with hb | hb
                  · rw [hb] at hk; cases hk
                  · exact (c.calm hb).1
                · exact de_stuck
              · exact de_stuck
          · exact de_stuck
      · exact de_stuck
theorem s_meth {f : Expr → EM} (c : CxOk g X W) (hf : ∀ e, DE X W e (f e)) (o : Expr) (m : Str) (apos cpos : Pos) (args : List Expr) : DE X W (.Call (.Attribute o m apos) args [] cpos) (cMeth g f o m apos cpos args) := by
  unfold cMeth
  split
  · rename_i x l q
    split
    · rename_i cc
      split
      · rename_i a b
        obtain ⟨p, e, k, de⟩ := dicOf_is c q
        subst e
        obtain ⟨c1, c2, c3⟩ := cc
        subst c1
        obtain ⟨h1, h2⟩ := dicOf_gl c q
        exact de_kget k h1 h2 (s_cA hf [a, b]) c2 c3
      · exact de_stuck
    · exact de_stuck
  split
  · rename_i cc
    split
    · rename_i b e
      refine mt_ok (by have := c.units; omega) e rfl (hf o) (s_cA hf args) (fun hz => ?_) cc.1 cc.2.1 cc.2.2
      have : args = [] := List.eq_nil_of_length_eq_zero hz
      subst this
      rfl
    · split
      · rename_i hc
        obtain ⟨x1, x2, x3, x4⟩ := c.calm hc.1
        obtain ⟨w, hx⟩ := W
        have x2 : hx = none := x2
        subst x2
        cases args with
        | nil => exact de_meth0 c.tab.mth x4 c.tk (hf o) cc.1 cc.2.2
        | cons e1 es => exact de_meth c.tab.mth x4 c.tk (hf o) (s_cA hf (e1 :: es)) cc.1 cc.2.1 cc.2.2 hc.2
      · exact de_stuck
  · exact de_stuck
theorem s_iter {f : Expr → EM} {tg : Expr} (c : CxOk g X W) (hf : ∀ e, DE X W e (f e)) (e : Expr) : DI X W tg e (cIter g f e) := by
  unfold cIter
  split
  · rename_i x p args pos
    split
    · rename_i cc
      obtain ⟨c1, c2, c3, c4, c5, c6⟩ := cc
      split
      · rename_i ex
        subst ex
        split
        · exact di_range1 (gl_is c c2) (c.tab.free _ c3) (s_cA hf _) c5
        · exact di_range2 (gl_is c c2) (c.tab.free _ c3) (s_cA hf _) c5
        · exact di_range3 (gl_is c c2) (c.tab.free _ c3) (s_cA hf _) c5
        · exact di_stuck
      · rename_i ex
        have ex2 : x = "reversed" := c6.resolve_left ex
        subst ex2
        split
        · exact di_rev (gl_is c c2) (c.tab.free _ c3) (hf _) c5
        · exact di_stuck
    · exact di_expr (hf _)
  · exact di_stuck
  · exact di_expr (hf _)
theorem iter_plain {e : Expr} (h : isSet e = false) (env : PySem.Env) (x : Value) : foldedSetIterable e env x = pure x := by
  cases e <;> first | rfl | cases h
/-! ### targets -/
theorem s_names (c : CxOk g X W) : ∀ {ts : List Expr} {l : List Nat}, nameSlots g ts = some l → PGs X ts (gNames l) ∧ (∀ e ∈ ts, ∃ x p, e = Expr.Name x p) ∧ ts.length = l.length
  | [], l, h => by
    cases h
    exact ⟨pgs_nil, (fun e he => nomatch he), rfl⟩
  | e :: r, l, h => by
    unfold nameSlots at h
    split at h
    · rename_i q
      cases q
    · rename_i x p rest ee
      obtain ⟨rfl, rfl⟩ : e = .Name x p ∧ r = rest := by injection ee with e1 e2; exact ⟨e1, e2⟩
      split at h
      · rename_i i hi
        split at h
        · rename_i l' hl
          cases h
          obtain ⟨h1, h2, h3⟩ := s_names c hl
          obtain ⟨n1, n2, n3⟩ := sslot_is c hi
          refine ⟨pgs_cons (pg_name (by rw [c.hN]; exact c.nd) n1 n2 n3) h1 (by rfl), fun e he => ?_, by rw [List.length_cons, List.length_cons, h3]⟩
          rcases List.mem_cons.mp he with z | z
          · exact ⟨x, p, z⟩
          · exact h2 e z
        · cases h
      · cases h
    · cases h
theorem hxFree_is (c : CxOk g X W) {t : Tgt} (h : hxFree g t = true) : ∀ i ∈ t.slots, (kx X W).can i := by
  intro i hi
  unfold hxFree at h
  cases e : g.hx with
  | none =>
    have := c.hx0 e
    show (match W.hx with | none => True | some (j, _) => i ≠ j)
    rw [this]; trivial
  | some p =>
    obtain ⟨j, cn⟩ := p
    rw [e] at h
    obtain ⟨a, oe, w1, _⟩ := c.hx j cn e
    show (match W.hx with | none => True | some (j, _) => i ≠ j)
    rw [w1]
    intro z
    have h' : (!(t.slots.contains j)) = true := h
    have : t.slots.contains j = true := by rw [← z]; simpa using hi
    rw [this] at h'; cases h'
theorem s_tgt (c : CxOk g X W) {tg : Expr} {t : Tgt} (h : cTgt g tg = some t) (hf : hxFree g t = true) : ∃ gg, PG X tg gg ∧ TgOk (kx X W) t gg := by
  have can := hxFree_is c hf
  unfold cTgt at h
  split at h
  · split at h
    · rename_i i hi
      cases h
      obtain ⟨n1, n2, n3⟩ := sslot_is c hi
      exact ⟨_, pg_name (by rw [c.hN]; exact c.nd) n1 n2 n3, tg_one i (can i (by simp [Tgt.slots]))⟩
    · cases h
  · rename_i ts k pos
    split at h
    · rename_i hc
      split at h
      · rename_i l hl
        cases h
        obtain ⟨h1, h2, h3⟩ := s_names c hl
        obtain ⟨a1, a2⟩ := assignEach_len ts X.env h2
        have cal := (c.calm hc).1
        refine ⟨_, pg_or (pg_tup (n := l.length) cal h1 (by rw [a1, h3]) a2) (pg_lst (n := l.length) cal h1 (by rw [a1, h3]) a2), tg_many l can⟩
      · cases h
    · cases h
  · cases h
theorem hxFree_calm (c : CxOk g X W) (hc : g.calm = true) (t : Tgt) : hxFree g t = true := by
  unfold hxFree
  rw [(c.calm hc).2.2.1]
theorem blk_okX (c : CxOk g X W) (hc : g.calm = true) {scope : Scope} (hb : blkC g.N g.sc scope (ownOf g scope) = true) (s : Shared) (H : Hp) (C : Addr) (cl : List (Str × Addr)) (fp : List Addr) (E : Value → Shared → Prop) {w' : WX} (tk : Takes (BlkCxX X scope s H C cl fp E) w') : CxOk (blkSC g scope) (BlkCxX X scope s H C cl fp E) ⟨w', none⟩ where
  hN := c.hN
  nd := c.nd
  sc := by
    show relabel scope X.env = relS scope g.sc
    rw [← c.sc]; rfl
  calm := fun _ => ⟨(c.calm hc).1, rfl, rfl, (c.calm hc).2.2.2⟩
  tk := tk
  po := fun h => nomatch h
  top := fun h => nomatch h
  fn := fun x h => h
  tab := c.tab
  units := c.units
  kind := (blkOk_by hb).kind
  hx := fun i cn h => nomatch h
  hx0 := fun _ => rfl
  rm := L2H.roomH_of (c.calm hc).2.2.2
theorem blk_ok (c : CxOk g X W) (hc : g.calm = true) {scope : Scope} (hb : blkC g.N g.sc scope (ownOf g scope) = true) (s : Shared) (H : Hp) (C : Addr) (cl : List (Str × Addr)) (fp : List Addr) : CxOk (blkSC g scope) (BlkCx X scope s H C cl fp) W0 := blk_okX c hc hb s H C cl fp (fun _ _ => False) takes0
theorem s_cTs {t : Expr → TM} (ht : ∀ e, DT X W e (t e)) (es : List Expr) : DTs X W es (cTs t es) := by
  unfold cTs
  split
  · exact dts_nil
  · exact dts_one (ht _)
  · exact ⟨fun _ _ _ _ _ _ ⟨_, _, _, _, p⟩ => False.elim p⟩
/-- the parts of a comprehension's rule -/
theorem comp_parts {fi f : Expr → EM} {t : Expr → TM} (c : CxOk g X W) (hfi : ∀ e, DE X W e (fi e)) {scope : Scope} (hf : ∀ (g' : SC) (X' : Cx) (W' : WJ), g' = blkSC g scope → CxOk g' X' W' → ∀ e, DE X' W' e (f e)) (ht : ∀ (g' : SC) (X' : Cx) (W' : WJ), g' = blkSC g scope → CxOk g' X' W' → ∀ e, DT X' W' e (t e))
    (elt : Expr) (gs : List Comprehension) (pos : Pos) : DE X W (.ListComp elt gs scope pos) (cComp g fi f t elt gs scope) ∧
    (∀ (i : Nat) (y : Str) (py spos : Pos), X.N[i]? = some y → X.env.scope.names.lookup y = some .local → swapsWith (.ListComp elt gs scope pos) (some (.Name y py)) spos.line X.env = pure true → DS X W (.Assign [.Name y py] (.ListComp elt gs scope pos) spos) (asgS (cComp g fi f t elt gs scope) (.one i))) := by
  unfold cComp
  have stk : ∀ (i : Nat) (y : Str) (py spos : Pos) (e : Expr), DS X W (.Assign [.Name y py] e spos) (asgS stuckE (.one i)) := fun i y py spos e => ⟨fun _ _ _ _ _ _ ⟨_, _, _, _, p⟩ => False.elim p⟩
  split
  · rename_i tg iter ifs as
    split
    · rename_i cc
      obtain ⟨c1, c2, c3, c4⟩ := cc
      subst c1
      split
      · rename_i tt et
        split
        · rename_i hs
          obtain ⟨x1, x2, x3, x4⟩ := c.calm c2
          have bo := blkOk_by c4
          rw [← c.hN, ← c.sc] at bo
          have ho : ∀ i ∈ tt.slots, i ∈ (ownOf g scope).map (·.2) := fun i hi => by simpa using List.all_eq_true.mp hs i hi
          obtain ⟨w, hx⟩ := W
          have x2 : hx = none := x2
          subst x2
          have iter_ok := fun (tg : Expr) => s_iter (tg := tg) c hfi iter
          have nd : X.N.Nodup := by rw [c.hN]; exact c.nd
          -- the target is the same in every block
          have tgs : ∃ gg, (∀ s H C cl fp E, PG (BlkCxX X scope s H C cl fp E) tg gg) ∧ TgOk ⟨X.K, none, (X.prog, X.w)⟩ tt gg := by
            have fr : hxFree (blkSC g scope) tt = true := rfl
            unfold cTgt at et
            split at et
            · split at et
              · rename_i x px i hi
                cases et
                refine ⟨gName i, fun s H C cl fp E => ?_, tg_one i trivial⟩
                have cb := blk_okX c c2 c4 s H C cl fp E takes0
                obtain ⟨n1, n2, n3⟩ := sslot_is cb hi
                exact pg_name nd n1 n2 n3
              · cases et
            · rename_i ts k tpos
              split at et
              · split at et
                · rename_i l hl
                  cases et
                  refine ⟨gMany ⟨X.K, none, (X.prog, X.w)⟩ l.length (gNames l), fun s H C cl fp E => ?_, tg_many (K := ⟨X.K, none, (X.prog, X.w)⟩) l (fun i hi => trivial)⟩
                  have cb := blk_okX c c2 c4 s H C cl fp E takes0
                  obtain ⟨h1, h2, h3⟩ := s_names cb hl
                  obtain ⟨a1, a2⟩ := assignEach_len ts (BlkCxX X scope s H C cl fp E).env h2
                  exact pg_or (pg_tup (n := l.length) x1 h1 (by rw [a1, h3]) a2) (pg_lst (n := l.length) x1 h1 (by rw [a1, h3]) a2)
                · cases et
              · cases et
            · cases et
          obtain ⟨gg, tg1, tg2⟩ := tgs
          split
          · rename_i htop
            obtain ⟨t1, t2⟩ := c.top htop
            refine ⟨?_, fun i y py spos hy hyl hsw => ?_⟩
            · exact de_compX c.tk t1 t2 x1 nd (iter_ok tg) bo tg2 ho tg1 (fun σ s H C cl fp E tw => s_cTs (ht _ _ _ rfl (blk_okX c c2 c4 s H C cl fp E tw)) ifs) (fun σ s H C cl fp E tw => hf _ _ _ rfl (blk_okX c c2 c4 s H C cl fp E tw) elt) (iter_plain c3 _)
            · exact ds_setcX c.tk t1 t2 x1 nd hy hyl hsw (iter_ok tg) bo tg2 ho tg1 (fun σ s H C cl fp E tw => s_cTs (ht _ _ _ rfl (blk_okX c c2 c4 s H C cl fp E tw)) ifs) (fun σ s H C cl fp E tw => hf _ _ _ rfl (blk_okX c c2 c4 s H C cl fp E tw) elt) (iter_plain c3 _)
          refine ⟨?_, fun i y py spos hy hyl hsw => ?_⟩
          · exact de_comp x1 nd (iter_ok tg) bo tg2 ho (fun s H C cl fp => tg1 s H C cl fp _) (fun s H C cl fp => s_cTs (ht _ _ _ rfl (blk_ok c c2 c4 s H C cl fp)) ifs) (fun s H C cl fp => hf _ _ _ rfl (blk_ok c c2 c4 s H C cl fp) elt) (iter_plain c3 _)
          · exact ds_setc x1 nd hy hyl hsw (iter_ok tg) bo tg2 ho (fun s H C cl fp => tg1 s H C cl fp _) (fun s H C cl fp => s_cTs (ht _ _ _ rfl (blk_ok c c2 c4 s H C cl fp)) ifs) (fun s H C cl fp => hf _ _ _ rfl (blk_ok c c2 c4 s H C cl fp) elt) (iter_plain c3 _)
        · exact ⟨de_stuck, fun i y py spos _ _ _ => stk i y py spos _⟩
      · exact ⟨de_stuck, fun i y py spos _ _ _ => stk i y py spos _⟩
    · exact ⟨de_stuck, fun i y py spos _ _ _ => stk i y py spos _⟩
  · exact ⟨de_stuck, fun i y py spos _ _ _ => stk i y py spos _⟩
/-- THE COMPILER IS RIGHT -/
theorem s_all : ∀ n : Nat, (∀ (g : SC) (X : Cx) (W : WJ), CxOk g X W → ∀ e, DE X W e (cEx n g e)) ∧ (∀ (g : SC) (X : Cx) (W : WJ), CxOk g X W → ∀ e, DT X W e (cTx n g e))
  | 0 => ⟨fun g X W c e => by unfold cEx; exact de_stuck, fun g X W c e => by unfold cTx; exact dt_stuck⟩
  | n + 1 => by
    obtain ⟨ie, it⟩ := s_all n
    have he : ∀ (g : SC) (X : Cx) (W : WJ), CxOk g X W → ∀ e, DE X W e (cEx (n + 1) g e) := fun g X W c e => by
      cases e with
      | Constant k j pos => exact s_const k j pos
      | Name x pos => exact s_name c x pos
      | BinOp a op b pos =>
        show DE X W _ (match binF op with | some f => b2E f (cEx n g a) (cEx n g b) | none => stuckE)
        split
        · rename_i f e
          obtain ⟨r, h1, h2⟩ := binF_ok e
          exact de_bin h1 h2 (ie g X W c a) (ie g X W c b)
        · exact de_stuck
      | UnaryOp op a pos =>
        cases op with
        | USub => exact de_un un_neg o_neg (ie g X W c a)
        | Not => exact de_not (ie g X W c a)
        | _ => exact de_stuck
      | BoolOp op es pos =>
        cases op with
        | And =>
          cases es with
          | nil => exact de_stuck
          | cons a r => exact s_andE (ie g X W c) pos a r
        | Or =>
          cases es with
          | nil => exact de_stuck
          | cons a r => exact s_orE (ie g X W c) pos a r
      | IfExp t a b pos => exact de_if (it g X W c t) (ie g X W c a) (ie g X W c b)
      | Compare a ops bs pos => exact s_cmp c (ie g X W c) a ops bs pos
      | Tuple es k pos => exact de_tup (s_cA (ie g X W c) es)
      | List es pos => exact de_lst (s_cA (ie g X W c) es)
      | Dict ks vs pos =>
        show DE X W _ (cDict (cEx n g) ks vs)
        unfold cDict
        split
        · exact de_dnew
        · split
          · rename_i l e
            split
            · rename_i hl
              exact de_disp e hl.1 hl.2
            · exact de_stuck
          · split
            · rename_i l e
              split
              · rename_i hl
                exact de_dispG (ie g X W c) e hl.1 hl.2.1 (fun z => by rw [z] at hl; exact Bool.noConfusion hl.2.2)
              · exact de_stuck
            · exact de_stuck
      | Subscript a i pos => exact s_sub c (ie g X W c) a i pos
      | Call fn args ks cpos =>
        cases ks with
        | cons _ _ => cases fn <;> exact de_stuck
        | nil =>
          cases fn with
          | Name x p => exact s_call c (ie g X W c) x args p cpos
          | Attribute o m apos => exact s_meth c (ie g X W c) o m apos cpos args
          | Subscript a i p =>
            show DE X W _ (if g.calm = true ∧ noStars args = true then callVF g.T.fn (cEx n g (.Subscript a i p)) (cA (cEx n g) args) else stuckE)
            split
            · rename_i cc
              exact s_callV c cc.1 (ie g X W c _) (ie g X W c) args cc.2 fun s Q h => Call_ h
            · exact de_stuck
          | _ => exact de_stuck
      | Attribute o f pos =>
        show DE X W _ (if baseOk o = true then u1E (fldF g.T.fld f) (cEx n g o) else stuckE)
        split
        · rename_i bo
          exact de_fld c.tab.fld (ie g X W c o) bo
        · exact de_stuck
      | FormattedValue e conv sp pos =>
        cases sp with
        | some _ => exact de_stuck
        | none =>
          show DE X W _ (if conv = -1 then u1E fmtF (cEx n g e) else stuckE)
          split
          · rename_i q
            subst q
            exact de_fmt (ie g X W c e)
          · exact de_stuck
      | JoinedStr es pos =>
        cases es with
        | nil => exact de_stuck
        | cons a r =>
          cases r with
          | nil => exact de_stuck
          | cons b r => exact de_joined (ie g X W c)
      | ListComp elt gs scope pos => exact (comp_parts c (ie g X W c) (fun g' X' W' eg c' => by subst eg; exact ie _ X' W' c') (fun g' X' W' eg c' => by subst eg; exact it _ X' W' c') elt gs pos).1
      | _ => exact de_stuck
    refine ⟨he, fun g X W c e => ?_⟩
    cases e with
    | UnaryOp op a pos =>
      cases op with
      | Not => exact dt_not (it g X W c a)
      | _ => exact dt_truth (ie g X W c _) rfl
    | BoolOp op es pos =>
      cases op with
      | And =>
        cases es with
        | nil => exact dt_stuck
        | cons a r => exact (s_ands (it g X W c) pos a r).pt
      | Or =>
        cases es with
        | nil => exact dt_stuck
        | cons a r => exact (s_ors (it g X W c) pos a r).pt
    | Compare a ops bs pos => exact s_cmpT c (ie g X W c) a ops bs pos
    | IfExp t a b pos => exact dt_if (it g X W c t) (it g X W c a) (it g X W c b)
    | _ => exact dt_truth (ie g X W c _) rfl
end
end Dy

/-! The compiler of statements, and that it is right; defs. -/
namespace Dy
open PySem PySem.Spec PyProof.Rows L2
/-- does a comprehension that is given to a name keep its place (PEP 709's exchange) -/
def swB (g : SC) (y : Str) (py : Pos) (scope : Scope) (lpos : Pos) : Bool :=
  g.sc.names.lookup y == some .local && py.line == lpos.line && !(scope.names.any fun (n, k) => n == y && (k == .local || k == .cell))
def suiteSC (g : SC) (hx : Option (Nat × Str)) : SC := { g with calm := false, top := false, hx := hx }
def isTupE : Expr → Bool
  | .Tuple _ _ _ => true
  | _ => false
/-- a, b = x, y: both local names -/
def parS (m : AM) (i j : Nat) : SM := fun e h => (m e h).bindS e fun vs h1 => match vs with
  | [v, w] => .nxt ((e.set i (some v)).set j (some w)) h1
  | _ => .stuck
def parOk (g : SC) (x y : Str) (px py : Pos) (es : List Expr) : Bool :=
  g.sc.names.lookup x == some .local && g.sc.names.lookup y == some .local && px.line == py.line && !(x == y) && !(es.all (foldedForSure 8)) && !(es.all (constantsAlone 8)) && noStars es && es.length == 2
def cAsgn (g : SC) (f : Expr → EM) (tg e : Expr) : SM := match tg with
  | .Name x _ => (match sslot g x with
    | some i => if hxFree g (.one i) = true then (match e with
      | .SetComp _ _ _ _ => stuckS
      | .DictComp _ _ _ _ _ => stuckS
      | e => asgS (f e) (.one i)) else stuckS
    | none => stuckS)
  | .Tuple ts _ _ => if isTupE e = true then (match ts, e with
      | [.Name x px, .Name y py], .Tuple es _ _ => (match sslot g x, sslot g y with
        | some i, some j => if g.calm = true ∧ parOk g x y px py es = true ∧ i ≠ j then parS (cA f es) i j else stuckS
        | _, _ => stuckS)
      | _, _ => stuckS) else if notComp e = true then (match cTgt g tg with
      | some t => if hxFree g t = true then asgS (f e) t else stuckS
      | none => stuckS) else stuckS
  | .Subscript o i _ => if isSlice i = true then stuckS else sixS (f e) (f o) (f i)
  | .Attribute o a _ => sfldS g.T.fld (f e) (f o) a
  | _ => stuckS
def cRaise (g : SC) (e : Expr) : SM := match e with
  | .Call (.Name x _) [.Constant (.str _) _ _] [] _ => if g.calm = true ∧ okName x = true ∧ isGl g x = true ∧ g.T.exc x = true then raiseS x else stuckS
  | .Call (.Name x _) [e] [] _ => if g.calm = true ∧ okName x = true ∧ isGl g x = true ∧ g.T.exc x = true ∧ isStar e = false then raise1S x (cEx 60 g e) else stuckS
  | _ => stuckS
def subOf (g : SC) (x : Str) (c : Str) : Option Bool := if g.T.exc c = true then g.T.sub c x else none
mutual
def cSt : Nat → SC → Stmt → SM
  | 0, _, _ => stuckS
  | n + 1, g, .Expr e _ => (match e with
    | .Constant (.str _) _ _ => nextS
    | e => if notComp e = true then exprS (cEx 60 g e) else stuckS)
  | n + 1, g, .Return e _ => (match e with
    | some e => retS (cEx 60 g e)
    | none => retNS)
  | n + 1, g, .Assign ts e _ => (match ts with
    | [tg] => cAsgn g (cEx 60 g) tg e
    | _ => stuckS)
  | n + 1, g, .If c a b _ => ifS (cTx 60 g c) (cSs n g a) (cSs n g b)
  | n + 1, g, .For tg iter body orelse _ => (match orelse with
    | [] => if g.calm = true ∧ g.stm = true ∧ isSet iter = false then (match cTgt g tg with
      | some t => if hxFree g t = true then forS (cIter g (cEx 60 g) iter) t (cSs n g body) else stuckS
      | none => stuckS) else stuckS
    | _ => stuckS)
  | n + 1, g, .While c body orelse _ => (match orelse with
    | [] => if g.stm = true then whileS 1000000 (cTx 60 g c) (cSs n g body) else stuckS
    | _ => stuckS)
  | n + 1, g, .Raise e cause _ => (match e, cause with
    | some e, none => cRaise g e
    | _, _ => stuckS)
  | n + 1, g, .Try body hs orelse fin _ => (match hs, orelse, fin with
    | [.ExceptHandler (some (.Name x _)) nm (b₀ :: suite) _], [], [] => if g.top = true ∧ g.calm = true ∧ okName x = true ∧ isGl g x = true ∧ g.T.exc x = true then (match nm with
      | none => tryS (cSs n g body) none (subOf g x) fun _ => cSs n (suiteSC g none) (b₀ :: suite)
      | some nm => (match g.sc.names.lookup nm, ixOf g.N nm with
        | some .local, some i => tryS (cSs n g body) (some i) (subOf g x) fun c => cSs n (suiteSC g (some (i, c))) (b₀ :: suite)
        | _, _ => stuckS)) else stuckS
    | _, _, _ => stuckS)
  | n + 1, g, .Pass _ => nextS
  | n + 1, g, .Break _ => brkS
  | n + 1, g, .Continue _ => cntS
  | _ + 1, _, _ => stuckS
def cSs : Nat → SC → List Stmt → SM
  | 0, _, _ => stuckS
  | n + 1, g, [] => nextS
  | n + 1, g, st :: rest => seqS (cSt n g st) (cSs n g rest)
end
section
variable {X : Cx} {W : WJ} {g : SC}
theorem mark_units (A : Around) (v : Option Value) : (A.mark v).units = A.units := rfl
theorem suite_ok (c : CxOk g X W) {i : Nat} {cn : Str} (a : Addr) (oe : Obj) (pn : List (Addr × Obj)) (hz : Zc (.ref (He.ga X.K cn)) none oe) (hd : ∃ vs, oe.data = .fields vs) : CxOk (suiteSC g (some (i, cn))) (X.suite a ((a, oe) :: pn)) ⟨fun _ _ _ _ => False, some (i, a)⟩ where
  hN := c.hN
  nd := c.nd
  sc := c.sc
  calm := fun h => nomatch h
  tk := takes0
  po := fun _ => PassesOwn.never
  top := fun h => nomatch h
  fn := c.fn
  tab := c.tab
  units := c.units
  kind := c.kind
  hx := fun j d h => by
    have h' : (some (i, cn) : Option (Nat × Str)) = some (j, d) := h
    cases h'
    exact ⟨a, oe, rfl, hz, hd, List.mem_cons_self⟩
  hx0 := fun h => nomatch h
  rm := ⟨c.rm.dp, c.rm.un⟩
theorem suite_ok0 (c : CxOk g X W) (a : Addr) (oe : Obj) (pn : List (Addr × Obj)) : CxOk (suiteSC g none) (X.suite a ((a, oe) :: pn)) ⟨fun _ _ _ _ => False, none⟩ where
  hN := c.hN
  nd := c.nd
  sc := c.sc
  calm := fun h => nomatch h
  tk := takes0
  po := fun _ => PassesOwn.never
  top := fun h => nomatch h
  fn := c.fn
  tab := c.tab
  units := c.units
  kind := c.kind
  hx := fun j d h => nomatch h
  hx0 := fun _ => rfl
  rm := ⟨c.rm.dp, c.rm.un⟩
theorem tr_ok (c : CxOk g X W) (hc : g.calm = true) (w' : WX) (pn : List (Addr × Obj)) (xe : Value → Shared → Prop) (tk : Takes (X.tr pn xe) w') (po : PassesOwn (model X.prog X.w) X.A X.env xe) : CxOk g (X.tr pn xe) ⟨w', none⟩ where
  hN := c.hN
  nd := c.nd
  sc := c.sc
  calm := fun _ => ⟨(c.calm hc).1, rfl, (c.calm hc).2.2.1, (c.calm hc).2.2.2⟩
  tk := tk
  po := fun _ => po
  top := c.top
  fn := c.fn
  tab := c.tab
  units := c.units
  kind := c.kind
  hx := fun j d h => by rw [(c.calm hc).2.2.1] at h; cases h
  hx0 := fun _ => rfl
  rm := L2H.roomH_of (c.calm hc).2.2.2
theorem block_fun (c : CxOk g X W) : X.env.blockKind = .function := by
  unfold Env.blockKind
  rw [c.sc, c.kind]; rfl
theorem swaps_name (c : CxOk g X W) (elt : Expr) (gs : List Comprehension) (scope : Scope) (lpos : Pos) (y : Str) (py : Pos) (l : Nat) : swapsWith (.ListComp elt gs scope lpos) (some (.Name y py)) l X.env = pure (swB g y py scope lpos) := by
  have hb := block_fun c
  have hk : X.env.kindOf y = g.sc.names.lookup y := by show X.env.scope.names.lookup y = _; rw [c.sc]
  unfold swapsWith swB
  simp only [hb, hk, Expr.pos]
  rfl
theorem swaps_sub (e o i : Expr) (p : Pos) (l : Nat) (env : PySem.Env) : swapsWith e (some (.Subscript o i p)) l env = pure false := by
  cases e <;> rfl
theorem swapped_one {tg e : Expr} (h : isTupE e = false) (env : PySem.Env) : swappedStores [tg] e env = pure none := by
  cases e <;> first | (cases h; done) | (cases tg <;> rfl)
theorem swapped_sub {o i e : Expr} {p : Pos} (env : PySem.Env) : swappedStores [.Subscript o i p] e env = pure none := by
  cases e <;> rfl
theorem ds_par {i j : Nat} {x y : Str} {es : List Expr} {ma : AM} {px py pt : Pos} {kt k2 : Nat} {pt2 pos : Pos} (c : CxOk g X W) (hc : g.calm = true) (hp : parOk g x y px py es = true) (hi : X.N[i]? = some x) (hj : X.N[j]? = some y) (hij : i ≠ j) (ha : DA X W es ma) :
    DS X W (.Assign [.Tuple [.Name x px, .Name y py] kt pt] (.Tuple es k2 pt2) pos) (parS ma i j) := by
  unfold parOk at hp
  simp only [Bool.and_eq_true, Bool.not_eq_true'] at hp
  obtain ⟨⟨⟨⟨⟨⟨⟨h1, h2⟩, h3⟩, h4⟩, h5⟩, h6⟩, h7⟩, h8⟩ := hp
  have hx : X.env.scope.names.lookup x = some .local := by rw [c.sc]; exact eq_of_beq h1
  have hy : X.env.scope.names.lookup y = some .local := by rw [c.sc]; exact eq_of_beq h2
  have hl : es.length = 2 := eq_of_beq h8
  match es, hl with
  | [a, b], _ =>
    have hb := block_fun c
    have kx1 : X.env.kindOf x = some .local := hx
    have ky1 : X.env.kindOf y = some .local := hy
    have sa : isStar a = false := (noStars_head h7).1
    have sb : isStar b = false := (noStars_head (noStars_head h7).2).1
    have hw : swappedStores [.Tuple [.Name x px, .Name y py] kt pt] (.Tuple [a, b] k2 pt2) X.env = pure (some [x, y]) := by
      have st : ([a, b].any fun | .Starred .. => true | _ => false) = false := by
        cases a <;> first | (cases sa; done) | (cases b <;> first | rfl | (cases sb; done))
      have hne : (x == y) = false := h4
      have hnl : px.line = py.line := eq_of_beq h3
      unfold swappedStores
      simp only [st, hb, h5, h6]
      simp [kx1, ky1, hnl, Expr.pos, List.eraseDups, List.eraseDupsBy, List.eraseDupsBy.loop, hne]
      have hxy : ¬ y = x := fun e => by rw [e] at hne; simp at hne
      have hyx : (y == x) = false := by simpa using hxy
      simp [hyx, hne]
      intro hst
      exfalso
      rcases hst with z | z
      · cases a <;> first | (cases sa; done) | exact Bool.false_ne_true z
      · cases b <;> first | (cases sb; done) | exact Bool.false_ne_true z
    obtain ⟨cal, w2, _, _⟩ := c.calm hc
    have nd : X.N.Nodup := by rw [c.hN]; exact c.nd
    refine ps_imp (ps_par cal nd hi hj hij hx hy ha hw) fun D σ H ⟨ρ, env, h, rl, p⟩ => ?_
    refine tG_mono (PostS.bind (R := RL (kx X W)) rl p) fun vs H1 ⟨ρ1, h1, d, x1, r1, p1⟩ => ?_
    have can : ∀ n, (kx X W).can n := fun n => by show (match W.hx with | none => True | some (j, _) => n ≠ j); rw [w2]; trivial
    split at p1
    · rename_i v w
      obtain ⟨a1, b1, rfl, ia, ib⟩ := r1.1.two
      have l : mrL [v, w] ≤ h1.cs.length := r1.2
      unfold mrL at l
      unfold mrL at l
      have rl1 := rl.ext x1
      have r2 := Rel.set (can i) rl1 (i := i) (d := v) (v := a1) ⟨ia, by omega⟩
      have r3 := Rel.set (can j) r2 (i := j) (d := w) (v := b1) ⟨ib, by omega⟩
      exact ⟨a1, b1, rfl, p1 ρ1 _ H1 x1.at.refl r3.eis r3.ewf⟩
    · exact p1.elim
theorem asg_stuck {tg e : Expr} {pos : Pos} : DS X W (.Assign [tg] e pos) stuckS := ds_stuck
theorem s_asgn (c : CxOk g X W) (tg e : Expr) (pos : Pos) : DS X W (.Assign [tg] e pos) (cAsgn g (cEx 60 g) tg e) := by
  have he := (s_all 60).1 g X W c
  have nd : X.N.Nodup := by rw [c.hN]; exact c.nd
  unfold cAsgn
  split
  · rename_i x px
    split
    · rename_i i hi
      split
      · rename_i hf
        obtain ⟨n1, n2, n3⟩ := sslot_is c hi
        have can := hxFree_is c hf i (by simp [Tgt.slots])
        split
        · exact ds_stuck
        · exact ds_stuck
        · rename_i h1 h2
          cases e with
          | ListComp elt gs scope lpos =>
            have sw := swaps_name c elt gs scope lpos x px pos.line
            cases hb : swB g x px scope lpos with
            | false =>
              rw [hb] at sw
              exact ds_set nd n1 n2 (he _) sw n3 can
            | true =>
              rw [hb] at sw
              have hl : X.env.scope.names.lookup x = some .local := by
                rw [c.sc]
                unfold swB at hb
                simp only [Bool.and_eq_true] at hb
                exact eq_of_beq hb.1.1
              exact (comp_parts c ((s_all 59).1 g X W c) (fun g' X' W' eg c' => by subst eg; exact (s_all 59).1 _ X' W' c') (fun g' X' W' eg c' => by subst eg; exact (s_all 59).2 _ X' W' c') elt gs lpos).2 i x px pos n1 hl sw
          | SetComp a b s p => exact absurd rfl (h1 a b s p)
          | DictComp a b d s p => exact absurd rfl (h2 a b d s p)
          | _ => exact ds_set nd n1 n2 (he _) (swaps_no rfl _ _ _) n3 can
      · exact ds_stuck
    · exact ds_stuck
  · rename_i ts kt pt
    split
    · rename_i ht
      split
      · rename_i x px y py es k2 pt2
        split
        · rename_i i j hi hj
          split
          · rename_i cc
            obtain ⟨c1, c2, c3⟩ := cc
            exact ds_par c c1 c2 (sslot_is c hi).1 (sslot_is c hj).1 c3 (s_cA he es)
          · exact ds_stuck
        · exact ds_stuck
      · exact ds_stuck
    · rename_i ht
      split
      · rename_i hn
        split
        · rename_i t et
          split
          · rename_i hf
            obtain ⟨gg, h1, h2⟩ := s_tgt c et hf
            exact ds_asg (he e) h1 h2 hn (swapped_one (bfalse ht) _) rfl
          · exact ds_stuck
        · exact ds_stuck
      · exact ds_stuck
  · rename_i o i sp
    split
    · exact ds_stuck
    · rename_i hs
      have hs := bfalse hs
      refine ps_imp (ps_asg (he e) (pg_sub (he o) (he i) (set_any (hx := W.hx) (by have := c.units; omega)) (fun v => by cases i <;> first | rfl | (cases hs; done))) (swaps_sub e o i sp pos.line X.env) (swapped_sub _) rfl) fun D σ H ⟨ρ, env, h, rl, p⟩ => ?_
      refine tG_mono (PostS.bind (R := RD (kx X W)) rl p) fun b H1 ⟨ρ1, h1, a1, x1, ra1, p1⟩ => ?_
      have rl1 := rl.ext x1
      refine tG_mono (PostS.bind (R := RD (kx X W)) rl1 p1) fun b2 H2 ⟨ρ2, h2, a2, x2, ra2, p2⟩ => ?_
      have rl2 := rl1.ext x2
      refine tG_mono (PostS.bind (R := RD (kx X W)) rl2 p2) fun b3 H3 ⟨ρ3, h3, a3, x3, ra3, p3⟩ => ?_
      have rl3 := rl2.ext x3
      cases e : setIx a2 a3 a1 h3 with
      | none => rw [e] at p3; exact p3.elim
      | some h4 =>
        rw [e] at p3
        refine setIx_is x3.at (ra2.ext x3 rl2.len) ra3 ((ra1.ext x2 rl1.len).ext x3 rl2.len) e fun H4 x4 => ?_
        have rl4 := rl3.ext x4
        exact p3 ρ3 σ H4 x4 rl4.eis rl4.ewf
  · exact ds_fld c.tab.fld (he e) (he _)
  · exact ds_stuck
theorem s_raise (c : CxOk g X W) (e : Expr) (pos : Pos) : DS X W (.Raise (some e) none pos) (cRaise g e) := by
  unfold cRaise
  split
  · split
    · rename_i x p m j p2 pos1 cc
      obtain ⟨c1, c2, c3, c4⟩ := cc
      obtain ⟨q1, q2⟩ := c.tab.exc x c4
      obtain ⟨e1, e2, e3, e4⟩ := He.exc_ok q2
      exact ds_raise (c.calm c1).1 c.tk e1 q1 e2 (raises_own e3 e4) (gl_is c c3) (okName_is c2).1
    · exact ds_stuck
  · split
    · rename_i x p e1 pos1 nc cc
      obtain ⟨c1, c2, c3, c4, c5⟩ := cc
      obtain ⟨q1, q2⟩ := c.tab.exc x c4
      obtain ⟨e1, e2, e3, e4⟩ := He.exc_ok q2
      exact ds_raise1 (c.calm c1).1 c.tk e1 q1 e2 (raises_own e3 e4) (gl_is c c3) (okName_is c2).1 ((s_all 60).1 g X W c _) c5
    · exact ds_stuck
  · exact ds_stuck
theorem s_st : ∀ n : Nat, (∀ (g : SC) (X : Cx) (W : WJ), CxOk g X W → ∀ st, DS X W st (cSt n g st)) ∧ (∀ (g : SC) (X : Cx) (W : WJ), CxOk g X W → ∀ sts, DSs X W sts (cSs n g sts))
  | 0 => ⟨fun g X W c st => by unfold cSt; exact ds_stuck, fun g X W c sts => by unfold cSs; exact dss_stuck⟩
  | n + 1 => by
    obtain ⟨i1, i2⟩ := s_st n
    refine ⟨fun g X W c st => ?_, fun g X W c sts => ?_⟩
    · have he := (s_all 60).1 g X W c
      have ht := (s_all 60).2 g X W c
      cases st with
      | Expr e pos =>
        show DS X W _ (match e with
          | .Constant (.str _) _ _ => nextS
          | e => if notComp e = true then exprS (cEx 60 g e) else stuckS)
        split
        · exact ds_doc
        · split
          · rename_i h
            exact ds_expr (he _) h
          · exact ds_stuck
      | Return e pos =>
        cases e with
        | none => exact ds_retN
        | some e => exact ds_ret (he e)
      | Assign ts e pos =>
        show DS X W _ (match ts with | [tg] => cAsgn g (cEx 60 g) tg e | _ => stuckS)
        split
        · exact s_asgn c _ e pos
        · exact ds_stuck
      | If t a b pos => exact ds_if (ht t) (i2 g X W c a) (i2 g X W c b)
      | For tg iter body orelse pos =>
        cases orelse with
        | cons _ _ => exact ds_stuck
        | nil =>
          show DS X W _ (if g.calm = true ∧ g.stm = true ∧ isSet iter = false then (match cTgt g tg with
            | some t => if hxFree g t = true then forS (cIter g (cEx 60 g) iter) t (cSs n g body) else stuckS
            | none => stuckS) else stuckS)
          split
          · rename_i cc
            split
            · rename_i t et
              split
              · rename_i hf
                obtain ⟨gg, h1, h2⟩ := s_tgt c et hf
                exact ds_for (c.po cc.2.1) (c.calm cc.1).1 (s_iter c he iter) h1 h2 (i2 g X W c body) (iter_plain cc.2.2 _)
              · exact ds_stuck
            · exact ds_stuck
          · exact ds_stuck
      | While t body orelse pos =>
        cases orelse with
        | cons _ _ => exact ds_stuck
        | nil =>
          show DS X W _ (if g.stm = true then whileS 1000000 (cTx 60 g t) (cSs n g body) else stuckS)
          split
          · rename_i hs
            exact ds_while (c.po hs) (ht t) (i2 g X W c body)
          · exact ds_stuck
      | Raise e cause pos =>
        cases e with
        | none => exact ds_stuck
        | some e =>
          cases cause with
          | none => exact s_raise c e pos
          | some _ => exact ds_stuck
      | Try body hs orelse fin pos =>
        show DS X W _ (match hs, orelse, fin with
          | [.ExceptHandler (some (.Name x _)) nm (b₀ :: suite) _], [], [] => if g.top = true ∧ g.calm = true ∧ okName x = true ∧ isGl g x = true ∧ g.T.exc x = true then (match nm with
            | none => tryS (cSs n g body) none (subOf g x) fun _ => cSs n (suiteSC g none) (b₀ :: suite)
            | some nm => (match g.sc.names.lookup nm, ixOf g.N nm with
              | some .local, some i => tryS (cSs n g body) (some i) (subOf g x) fun c => cSs n (suiteSC g (some (i, c))) (b₀ :: suite)
              | _, _ => stuckS)) else stuckS
          | _, _, _ => stuckS)
        split
        · rename_i x np nm b₀ suite hp
          split
          · rename_i cc
            obtain ⟨c1, c2, c3, c4, c5⟩ := cc
            obtain ⟨x1, x2, x3, x4⟩ := c.calm c2
            obtain ⟨t1, t2⟩ := c.top c1
            obtain ⟨o1, o2, o3⟩ := okName_is c3
            obtain ⟨w, hx⟩ := W
            have x2 : hx = none := x2
            subst x2
            have nd : X.N.Nodup := by rw [c.hN]; exact c.nd
            have nm_ok : Names X x (.ref (He.ga X.K x)) := ⟨gl_is c c4, o1, .inl (c.tab.exc x c5).1⟩
            have sub_ok : ∀ d k, subOf g x d = some k → PySem.W.exmOne X.K (.ref (He.ga X.K d)) (.ref (He.ga X.K x)) = some k := fun d k h => by
              unfold subOf at h
              split at h
              · exact (c.tab.sub d x k h).2.1
              · cases h
            split
            · refine ds_try t1 t2 nm_ok c.tk sub_ok (fun w' pn xe tk po => i2 g _ _ (tr_ok c c2 w' pn xe tk po) body) (fun d a oe pn hz hd hs => i2 _ _ _ (suite_ok0 c a oe pn) (b₀ :: suite))
            · rename_i nm'
              split
              · rename_i i hl hi
                exact ds_try_as t1 t2 nd (by rw [c.hN]; exact ixOf_get hi) (by show X.env.scope.names.lookup nm' = _; rw [c.sc]; exact hl) nm_ok c.tk sub_ok (fun w' pn xe tk po => i2 g _ _ (tr_ok c c2 w' pn xe tk po) body)
                  (fun d a oe pn hz hd hs => i2 _ _ _ (suite_ok c a oe pn hz hd) (b₀ :: suite))
              · exact ds_stuck
          · exact ds_stuck
        · exact ds_stuck
      | Pass pos => exact ds_pass
      | Break pos => exact ds_brk
      | Continue pos => exact ds_cnt
      | _ => exact ds_stuck
    · cases sts with
      | nil => exact dss_nil
      | cons st rest => exact dss_cons (i1 g X W c st) (i2 g X W c rest)

/-! ### defs -/
def finF (l : Nat) (d : D) (h : PH) : Res D := .ok d (h.cut (max l (max h.lim d.mr)))
def runF (body : SM) (np nn : Nat) : Fn := fun ds h => if ds.length = np then (match body (ds.map some ++ List.replicate (nn - np) none) h with
  | .nxt _ h1 => finF h.cs.length .non h1
  | .ret d h1 => finF h.cs.length d h1
  | .exc c _ h1 => .exc c (h1.cut (max h.cs.length h1.lim))
  | _ => .stuck) else .stuck
def defSC (N : List Str) (sc : Scope) (T : Tab) (k : Nat) : SC := ⟨N, sc, T, k, true, true, none, fun _ => true, true⟩
theorem isL_get_some {K : KX} {ρ : List Addr} {H : Hp} {ds : List D} {vs : List V} (i : IsL K ρ H ds vs) (m : Nat) (hj : K.J (vs.map some ++ List.replicate m none)) : EnvIs K ρ H (ds.map some ++ List.replicate m none) (vs.map some ++ List.replicate m none) := by
  refine ⟨by simp [i.length], fun j d e => ?_, hj⟩
  by_cases hl : j < ds.length
  · rw [List.getElem?_append_left (by rw [List.length_map]; exact hl), List.getElem?_map] at e
    cases q : ds[j]? with
    | none => rw [q] at e; cases e
    | some d' =>
      rw [q] at e
      have : d' = d := by simpa using e
      subst this
      obtain ⟨v, e1, e2⟩ := i.get q
      refine ⟨v, ?_, e2⟩
      rw [List.getElem?_append_left (by rw [List.length_map, i.length]; exact hl), List.getElem?_map, e1]; rfl
  · rw [List.getElem?_append_right (by rw [List.length_map]; omega), List.getElem?_replicate] at e
    split at e <;> cases e
theorem envWf_start {ds : List D} {n m : Nat} (l : mrL ds ≤ n) : EnvWf (ds.map some ++ List.replicate m none) n := fun j d e => by
  by_cases hl : j < ds.length
  · rw [List.getElem?_append_left (by rw [List.length_map]; exact hl), List.getElem?_map] at e
    cases q : ds[j]? with
    | none => rw [q] at e; cases e
    | some d' =>
      rw [q] at e
      have : d' = d := by simpa using e
      subst this
      have := mrL_get q
      omega
  · rw [List.getElem?_append_right (by rw [List.length_map]; omega), List.getElem?_replicate] at e
    split at e <;> cases e
/-- THE RULE for a def of the text -/
theorem def_ok {P : Program} {w : World} {K : PySem.W.Frag} {mg : Str → Option Value} {base : Heap} {T : Tab} {k n : Nat} {x qual : Str} {params : Arguments} {body : List Stmt} {scope : Scope} {f : Addr} {fd : FuncData} {N ps : List Str} {dvs : List V} {kws : List (Str × V)}
    (F : FunD K x qual params body scope dvs kws f fd) (S : FnScope N ps scope) (tab : TabOk P w K mg base T k) : FnOk P w K mg base (L2.CX P w) (k + 1) f fd ps (spD ⟨K, none, (P, w)⟩ ps.length (runF (cSs n (defSC N scope T k) body) ps.length N.length)) := by
  refine F.ok S (fun vs H Q E h => h.1) (fun cdv A outer s H vs Q E hr h => ?_)
  obtain ⟨hlen, ρ, ds, h, at_, ra, p⟩ := h
  have hds : ds.length = ps.length := by rw [← ra.1.length]; exact hlen
  have cok : CxOk (defSC N scope T k) (cxOf (L2.CX P w) P w K mg base N qual scope f cdv A outer s H E) ⟨fun cls d _ H => E cls d H, none⟩ :=
    { hN := rfl, nd := S.nd, sc := rfl, calm := fun _ => ⟨rfl, rfl, rfl, hr⟩, tk := takes_of rfl rfl rfl rfl, po := fun _ => passes_of rfl, top := fun _ => ⟨rfl, rfl⟩, fn := fun _ _ => rfl, tab := tab, units := by have := hr.un; show (A.deeper _).units + 65 < cLine; omega, kind := S.kind,
      hx := (fun i c h => nomatch h), hx0 := (fun _ => rfl), rm := L2H.roomH_of hr }
  refine ⟨_, (s_st n).2 _ _ _ cok body, ?_⟩
  refine ⟨ρ, ds.map some ++ List.replicate (N.length - ps.length) none, h, ⟨?_, at_.heap, at_.wf, envWf_start ra.2⟩, ?_⟩
  · show EnvIs _ ρ H _ (vs.map some ++ List.replicate (N.length - vs.length) none)
    rw [hlen]
    exact isL_get_some ra.1 _ trivial
  · unfold runF at p
    rw [if_pos hds] at p
    cases e : cSs n (defSC N scope T k) body (ds.map some ++ List.replicate (N.length - ps.length) none) h with
    | stuck => rw [e] at p; exact p.elim
    | brk _ _ => rw [e] at p; exact p.elim
    | cnt _ _ => rw [e] at p; exact p.elim
    | nxt e1 h1 =>
      rw [e] at p
      intro ρ1 σ1 H1 x1 _ _
      have l := x1.le
      have wf := x1.wf.le
      rw [at_.heap.len] at l
      exact p _ _ H1 (x1.cut (n := max h.cs.length (max h1.lim (D.non).mr)) (by rw [at_.heap.len]; omega) (by omega)) is_non
    | ret d h1 =>
      rw [e] at p
      intro ρ1 v1 H1 x1 r1
      have l := x1.le
      have wf := x1.wf.le
      have r2 := r1.2
      rw [at_.heap.len] at l
      refine p _ _ H1 (x1.cut (n := max h.cs.length (max h1.lim d.mr)) (by rw [at_.heap.len]; omega) (by omega)) ⟨Is.cut (by omega) r1.1, ?_⟩
      show d.mr ≤ (h1.cs.take _).length
      rw [List.length_take]; omega
    | exc c e1 h1 =>
      rw [e] at p
      intro ρ1 σ1 H1 x1 _ _
      exact p _ H1 (x1.cut (n := max h.cs.length h1.lim) (by rw [at_.heap.len]; omega) (by omega))
/-- .. for a def that is handed the error -/
def hotSC (N : List Str) (sc : Scope) (T : Tab) (k : Nat) (c : Str) : SC := ⟨N, sc, T, k, false, false, some (0, c), fun _ => true, true⟩
theorem hot_ok {P : Program} {w : World} {K : PySem.W.Frag} {mg : Str → Option Value} {base : Heap} {T : Tab} {k n : Nat} {x qual : Str} {params : Arguments} {body : List Stmt} {scope : Scope} {f : Addr} {fd : FuncData} {N : List Str} {p : Str} {dvs : List V} {kws : List (Str × V)}
    (F : FunD K x qual params body scope dvs kws f fd) (S : FnScope N [p] scope) (tab : TabOk P w K mg base T k) (c : Str) : FnHot P w K mg base (k + 1) f fd p c (runF (cSs n (hotSC N scope T k c) body) 0 N.length) := by
  refine fn_hot F S (fun cdv A outer s H a oe Q E hr hz hd h => ?_)
  obtain ⟨ρ, h, at_, q⟩ := h
  have h1 : 1 ≤ N.length := by have := congrArg List.length S.pre; rw [List.length_take] at this; simp at this; omega
  have cok : CxOk (hotSC N scope T k c) (L2H.cxH (L2.CX P w) P w K mg base N qual scope f cdv A outer s H E (a, oe)) ⟨fun _ _ _ _ => False, some (0, a)⟩ :=
    { hN := rfl, nd := S.nd, sc := rfl, calm := (fun z => nomatch z), tk := takes0, po := fun _ => passes_of rfl, top := (fun z => nomatch z), fn := fun _ _ => rfl, tab := tab, units := by have := hr.un; show (A.deeper _).units + 65 < cLine; omega, kind := S.kind,
      hx := (fun i d z => by
        have z' : (some (0, c) : Option (Nat × Str)) = some (i, d) := z
        cases z'
        exact ⟨a, oe, rfl, hz, hd, List.mem_cons_self⟩), hx0 := (fun z => nomatch z), rm := hr }
  refine ⟨_, (s_st n).2 _ _ _ cok body, ?_⟩
  refine ⟨ρ, List.replicate N.length none, h, ⟨⟨?_, fun i d z => ?_, ?_⟩, at_.heap.hx, at_.wf, fun i d z => ?_⟩, ?_⟩
  · show (List.replicate N.length none).length = ([V.ref a].map some ++ List.replicate (N.length - 1) none).length
    rw [List.length_replicate, List.length_append, List.length_replicate]
    show N.length = 1 + (N.length - 1)
    omega
  · rw [List.getElem?_replicate] at z
    split at z <;> cases z
  · show ([V.ref a].map some ++ List.replicate (N.length - 1) none)[0]? = some (some (V.ref a))
    rfl
  · rw [List.getElem?_replicate] at z
    split at z <;> cases z
  · have q : (match (match cSs n (hotSC N scope T k c) body (List.replicate N.length none) h with
      | .nxt _ h1 => finF h.cs.length .non h1
      | .ret d h1 => finF h.cs.length d h1
      | .exc c _ h1 => .exc c (h1.cut (max h.cs.length h1.lim))
      | _ => (.stuck : Res D)) with
      | .ok d h1 => ∀ ρ1 v H1, Ext ⟨K, none, (P, w)⟩ ρ H h1 ρ1 H1 → RD ⟨K, none, (P, w)⟩ ρ1 H1 h1.cs.length d v → Q v H1
      | _ => False) := q
    cases e : cSs n (hotSC N scope T k c) body (List.replicate N.length none) h with
    | stuck => rw [e] at q; exact q.elim
    | brk _ _ => rw [e] at q; exact q.elim
    | cnt _ _ => rw [e] at q; exact q.elim
    | exc c e1 h1 => rw [e] at q; exact q.elim
    | nxt e1 h1 =>
      rw [e] at q
      intro ρ1 σ1 H1 x1 _ _
      have x1 : Ext ⟨K, none, (P, w)⟩ ρ H h1 ρ1 H1 := x1.hx
      have l := x1.le
      have wf := x1.wf.le
      rw [at_.heap.len] at l
      exact q _ _ H1 (x1.cut (n := max h.cs.length (max h1.lim (D.non).mr)) (by rw [at_.heap.len]; omega) (by omega)) is_non
    | ret d h1 =>
      rw [e] at q
      intro ρ1 v1 H1 x1 r1
      have x1 : Ext ⟨K, none, (P, w)⟩ ρ H h1 ρ1 H1 := x1.hx
      have r1 : RD ⟨K, none, (P, w)⟩ ρ1 H1 h1.cs.length d v1 := r1.hx
      have l := x1.le
      have wf := x1.wf.le
      have r2 := r1.2
      rw [at_.heap.len] at l
      refine q _ _ H1 (x1.cut (n := max h.cs.length (max h1.lim d.mr)) (by rw [at_.heap.len]; omega) (by omega)) ⟨Is.cut (by omega) r1.1, ?_⟩
      show d.mr ≤ (h1.cs.take _).length
      rw [List.length_take]; omega
end
end Dy

/-! What the top left, read by one look; the table of a law. -/
namespace Dy
open PySem PySem.Spec PyProof.Rows L2
/-! ### constants of the module, nested -/
mutual
def relD (K : PySem.W.Frag) : D → Value → Bool
  | .non, .none => true
  | .bl b, .bool c => b == c
  | .int i, .int j _ => decide (i = j)
  | .str x, .str y _ => decide (x = y)
  | .tup ds, .ref a => (match K.lookup a with
    | some ⟨.type c, _, .seq its _, _⟩ => decide (c = "tuple") && (decide (its.size ≤ sizeLine) && relDs K ds its.toList)
    | _ => false)
  | .frl ds, .ref a => (match K.lookup a with
    | some ⟨.type c, none, .seq its _, _⟩ => decide (c = "list") && (decide (its.size ≤ sizeLine) && relDs K ds its.toList)
    | _ => false)
  | _, _ => false
def relDs (K : PySem.W.Frag) : List D → List Value → Bool
  | [], [] => true
  | d :: ds, u :: us => relD K d u && relDs K ds us
  | _, _ => false
end
def ConV (K : PySem.W.Frag) (d : D) (u : Value) (v : V) : Prop := RelV v u ∧ (∀ hx pw ρ H, Is ⟨K, hx, pw⟩ ρ H d v) ∧ d.mr = 0
def ConL (K : PySem.W.Frag) (ds : List D) (us : List Value) (vs : List V) : Prop := Vals vs us ∧ (∀ hx pw ρ H, IsL ⟨K, hx, pw⟩ ρ H ds vs) ∧ mrL ds = 0
mutual
theorem relD_ok {K : PySem.W.Frag} : ∀ (d : D) (u : Value), relD K d u = true → ∃ v, ConV K d u v
  | .non, u, h => by
    cases u with
    | none => exact ⟨.non, rfl, fun hx pw ρ H => by unfold Is; rfl, rfl⟩
    | _ => simp [relD] at h
  | .bl b, u, h => by
    cases u with
    | bool c =>
      have e : b = c := by unfold relD at h; exact eq_of_beq h
      exact ⟨.bl b, by rw [e]; rfl, fun hx pw ρ H => by unfold Is; rfl, rfl⟩
    | _ => simp [relD] at h
  | .int i, u, h => by
    cases u with
    | int j t =>
      have e : i = j := by unfold relD at h; exact of_decide_eq_true h
      exact ⟨.int i, ⟨t, by rw [e]⟩, fun hx pw ρ H => by unfold Is; rfl, rfl⟩
    | _ => simp [relD] at h
  | .str x, u, h => by
    cases u with
    | str y t =>
      have e : x = y := by unfold relD at h; exact of_decide_eq_true h
      exact ⟨.str x, ⟨t, by rw [e]⟩, fun hx pw ρ H => by unfold Is; rfl, rfl⟩
    | _ => simp [relD] at h
  | .tup ds, u, h => by
    cases u with
    | ref a =>
      unfold relD at h
      split at h
      · rename_i c od its n sl q
        obtain ⟨h1, h2⟩ := He.ba h
        obtain ⟨h3, h4⟩ := He.ba h2
        obtain ⟨vs, r, i, m⟩ := relDs_ok ds _ h4
        refine ⟨.ref a, rfl, fun hx pw ρ H => ?_, m⟩
        unfold Is
        exact ⟨a, vs, rfl, .inr ⟨_, its, n, q, congrArg Value.type (of_decide_eq_true h1), rfl, of_decide_eq_true h3, r⟩, i hx pw ρ H⟩
      · cases h
    | _ => simp [relD] at h
  | .frl ds, u, h => by
    cases u with
    | ref a =>
      unfold relD at h
      split at h
      · rename_i c its n sl q
        obtain ⟨h1, h2⟩ := He.ba h
        obtain ⟨h3, h4⟩ := He.ba h2
        obtain ⟨vs, r, i, m⟩ := relDs_ok ds _ h4
        refine ⟨.ref a, rfl, fun hx pw ρ H => ?_, m⟩
        unfold Is
        exact ⟨a, vs, rfl, .inr ⟨_, its, n, q, congrArg Value.type (of_decide_eq_true h1), rfl, rfl, of_decide_eq_true h3, r⟩, i hx pw ρ H⟩
      · cases h
    | _ => simp [relD] at h
  | .ref n, u, h => by simp [relD] at h
  | .ty n, u, h => by simp [relD] at h
  | .glb n, u, h => by simp [relD] at h
theorem relDs_ok {K : PySem.W.Frag} : ∀ (ds : List D) (us : List Value), relDs K ds us = true → ∃ vs, ConL K ds us vs
  | [], us, h => by
    cases us with
    | nil => exact ⟨[], .nil, fun hx pw ρ H => by unfold IsL; rfl, rfl⟩
    | cons _ _ => simp [relDs] at h
  | d :: ds, us, h => by
    cases us with
    | nil => simp [relDs] at h
    | cons u us =>
      unfold relDs at h
      obtain ⟨h1, h2⟩ := He.ba h
      obtain ⟨v, r, i, m⟩ := relD_ok d u h1
      obtain ⟨vs, rs, is, ms⟩ := relDs_ok ds us h2
      refine ⟨v :: vs, .cons r rs, fun hx pw ρ H => ?_, by unfold mrL; omega⟩
      unfold IsL
      exact ⟨v, vs, rfl, i hx pw ρ H, is hx pw ρ H⟩
end
/-! ### one look -/
structure Tb where
  con : List (Str × D) := []
  free : List Str := []
  exc : List Str := []
  sub : List ((Str × Str) × Bool) := []
  gcd : List Str := []
  subT : List ((Str × Str) × Bool) := []
  dic : List (Str × List (Str × D)) := []
  /-- a class and its field -/
  fld : List (Str × Str) := []
  /-- a class and its method -/
  mth : List (Str × Str) := []
  /-- a class that is made by __init__ -/
  mkr : List Str := []
/-- a dict's entries, as told -/
def entB (K : PySem.W.Frag) : List (Str × D) → List DictEntry → Bool
  | [], [] => true
  | p :: r, e :: s => (match e.key with
    | .str y _ => decide (y = p.1) && (relD K p.2 e.val && entB K r s)
    | _ => false)
  | _, _ => false
def dicB (K : PySem.W.Frag) (x : Str) (l : List (Str × D)) : Bool := (He.Fa.glo x).ok K && (match K.lookup (He.ga K x) with
  | some ⟨_, _, .dict es _, _⟩ => entB K l es.toList
  | _ => false)
theorem entB_find {K : PySem.W.Frag} : ∀ {l : List (Str × D)} {es : List DictEntry}, entB K l es = true → ∀ z : Str, (∀ d, l.lookup z = some d → ∃ e v, es.find? (·.key.isStr z) = some e ∧ ConV K d e.val v) ∧ (l.lookup z = none → es.find? (·.key.isStr z) = none) ∧ es.any (·.refKey) = false
  | [], [], _, z => ⟨fun d h => (by cases h), fun _ => rfl, rfl⟩
  | [], _ :: _, h, _ => by simp [entB] at h
  | _ :: _, [], h, _ => by simp [entB] at h
  | (k, dd) :: r, e :: s, h, z => by
    unfold entB at h
    split at h
    · rename_i y t q
      obtain ⟨h1, h2⟩ := He.ba h
      obtain ⟨h3, h4⟩ := He.ba h2
      have hy : y = k := of_decide_eq_true h1
      obtain ⟨i1, i2, i3⟩ := entB_find h4 z
      have ks : e.key.isStr z = (z == k) := by
        rw [q, hy]
        show (k == z) = (z == k)
        exact Bool.eq_iff_iff.mpr ⟨fun a => beq_iff_eq.mpr (eq_of_beq a).symm, fun a => beq_iff_eq.mpr (eq_of_beq a).symm⟩
      have rk : e.refKey = false := by
        unfold DictEntry.refKey
        rw [q]
      refine ⟨fun d hd => ?_, fun hn => ?_, by rw [List.any_cons, rk, i3]; rfl⟩
      · rw [List.lookup_cons] at hd
        rw [List.find?_cons, ks]
        cases c : z == k with
        | true =>
          rw [c] at hd
          cases hd
          obtain ⟨v, cv⟩ := relD_ok _ _ h3
          exact ⟨e, v, rfl, cv⟩
        | false =>
          rw [c] at hd
          exact i1 d hd
      · rw [List.lookup_cons] at hn
        rw [List.find?_cons, ks]
        cases c : z == k with
        | true => rw [c] at hn; cases hn
        | false =>
          rw [c] at hn
          exact i2 hn
    · cases h
theorem dicB_ok {w : World} {K : PySem.W.Frag} {mg : Str → Option Value} {x : Str} {l : List (Str × D)} (h : dicB K x l = true) (hm : mg x = some (.ref (He.ga K x))) (kd : ∃ es n, KDict K w (He.ga K x) es n) : DicOk w K mg x l := by
  obtain ⟨h1, h2⟩ := He.ba h
  split at h2
  · rename_i c od es n sl q
    have ns : ∀ z, PySem.W.nsIn K (He.ga K x) z = (match es.toList.find? (·.key.isStr z) with
      | some e => some (some e.val)
      | none => if es.toList.any (·.refKey) then none else some none) := fun z => by
      unfold PySem.W.nsIn
      rw [q]
      rfl
    refine ⟨hm, kd, fun z d hd => ?_, fun z hz => ?_⟩
    · obtain ⟨i1, i2, i3⟩ := entB_find h2 z
      obtain ⟨e, v, e1, e2, e3, e4⟩ := i1 d hd
      exact ⟨e.val, v, by rw [ns, e1], e2, e3, e4⟩
    · obtain ⟨i1, i2, i3⟩ := entB_find h2 z
      rw [ns, i2 hz, i3]; rfl
  · cases h2
def excCB (K : PySem.W.Frag) (A : Addr) : Bool := He.eqO (PySem.W.findIn K (.ref A) "__getattribute__") (some (some (.builtin "BaseException.__getattribute__"))) && (He.eqO (PySem.W.findIn K (.ref A) "__getattr__") (some none) && (decide (PySem.W.subIn K (.ref A) (.type "BaseException") = some true) && (PySem.W.hasDictIn K A &&
  (He.eqO (PySem.W.findIn K (.ref A) "__class__") (some (some (.builtin "object.__class__"))) && (He.eqO (PySem.W.specialIn K (.builtin "object.__class__") "__get__") (some (some (.builtin "getset_descriptor.__get__"))) && (decide (PySem.W.takesIn K (.builtin "object.__class__") = some true) && decide (PySem.W.mroIn K A (.type "object") = some true)))))))
theorem excCB_ok {K : PySem.W.Frag} {A : Addr} (h : excCB K A = true) : ExcC K A := by
  obtain ⟨h1, h⟩ := He.ba h
  obtain ⟨h2, h⟩ := He.ba h
  obtain ⟨h3, h⟩ := He.ba h
  obtain ⟨h4, h⟩ := He.ba h
  obtain ⟨h5, h⟩ := He.ba h
  obtain ⟨h6, h⟩ := He.ba h
  obtain ⟨h7, h8⟩ := He.ba h
  exact ⟨He.eqO_ok h1, He.eqO_ok h2, of_decide_eq_true h3, h4, He.eqO_ok h5, He.eqO_ok h6, of_decide_eq_true h7, of_decide_eq_true h8⟩
def conB (K : PySem.W.Frag) (x : Str) (d : D) : Bool := match PySem.W.nsIn K mainGlobals x with
  | some (some u) => relD K d u
  | _ => false
def subB (K : PySem.W.Frag) (c x : Str) (b : Bool) : Bool := (He.Fa.glo x).ok K && (decide (PySem.W.exmOne K (.ref (He.ga K c)) (.ref (He.ga K x)) = some b) && (decide (PySem.W.kitOne K (.ref (He.ga K c)) (.ref (He.ga K x)) = some b) && excCB K (He.ga K c)))
def subTB (K : PySem.W.Frag) (c x : Str) (b : Bool) : Bool := (He.Fa.free x).ok K && (decide (x = "ValueError") && (decide (PySem.W.kitOne K (.ref (He.ga K c)) (.type "ValueError") = some b) && excCB K (He.ga K c)))
def Tb.okI (t : Tb) (K : PySem.W.Frag) : Bool := (t.fld.all fun p => (He.Fa.cls p.1).ok K && (He.Fa.noat p.1 p.2).ok K) && ((t.mth.all fun p => (He.Fa.cls p.1).ok K && (He.Fa.meth p.1 p.2).ok K) && t.mkr.all fun c => (He.Fa.glo c).ok K && (He.Fa.mkr c).ok K)
def Tb.ok (t : Tb) (glo : List Str) (K : PySem.W.Frag) : Bool := t.okI K && ((t.dic.all fun p => dicB K p.1 p.2) && ((t.gcd.all fun x => He.eqO (PySem.W.nsIn K mainGlobals x) (some (some (.builtin "math.gcd")))) && ((t.subT.all fun p => subTB K p.1.1 p.1.2 p.2) && ((t.con.all fun p => conB K p.1 p.2) && ((t.free.all fun x => (He.Fa.free x).ok K) && ((t.exc.all fun x => (He.Fa.glo x).ok K && (He.Fa.exc x).ok K) && ((t.sub.all fun p => subB K p.1.1 p.1.2 p.2) && glo.all fun x => (He.Fa.glo x).ok K)))))))
structure TbOk (w : World) (K : PySem.W.Frag) (mg : Str → Option Value) (t : Tb) (glo : List Str) : Prop where
  con : ∀ p ∈ t.con, ∃ u v, mg p.1 = some u ∧ ConV K p.2 u v
  free : ∀ x ∈ t.free, mg x = none
  exc : ∀ x ∈ t.exc, mg x = some (.ref (He.ga K x)) ∧ (He.Fa.exc x).ok K = true
  sub : ∀ p ∈ t.sub, mg p.1.2 = some (.ref (He.ga K p.1.2)) ∧ PySem.W.exmOne K (.ref (He.ga K p.1.1)) (.ref (He.ga K p.1.2)) = some p.2 ∧ PySem.W.kitOne K (.ref (He.ga K p.1.1)) (.ref (He.ga K p.1.2)) = some p.2 ∧ ExcC K (He.ga K p.1.1)
  glo : ∀ x ∈ glo, mg x = some (.ref (He.ga K x))
  gcd : ∀ x ∈ t.gcd, mg x = some (.builtin "math.gcd")
  subT : ∀ p ∈ t.subT, mg p.1.2 = none ∧ p.1.2 = "ValueError" ∧ PySem.W.kitOne K (.ref (He.ga K p.1.1)) (.type "ValueError") = some p.2 ∧ ExcC K (He.ga K p.1.1)
  dic : ∀ p ∈ t.dic, DicOk w K mg p.1 p.2
  fld : ∀ p ∈ t.fld, Cls K (He.ga K p.1) ∧ NoAttr K (He.ga K p.1) p.2
  mth : ∀ p ∈ t.mth, Cls K (He.ga K p.1) ∧ Meth K (He.ga K p.1) p.2 (He.ma K (He.ga K p.1) p.2)
  mkr : ∀ c ∈ t.mkr, mg c = some (.ref (He.ga K c)) ∧ Mk K (He.ga K c) (He.ma K (He.ga K c) "__init__")
theorem Tb.ok_is {w : World} {t : Tb} {gl : List Str} {K : PySem.W.Frag} {h : Heap} {mg : Str → Option Value} (X : K.In h) (G : h.Ns mainGlobals mg) (e : t.ok gl K = true) (kd : ∀ p ∈ t.dic, ∃ es n, KDict K w (He.ga K p.1) es n) : TbOk w K mg t gl := by
  obtain ⟨hI, e⟩ := He.ba e
  obtain ⟨i1, hI⟩ := He.ba hI
  obtain ⟨i2, i3⟩ := He.ba hI
  obtain ⟨h8, e⟩ := He.ba e
  obtain ⟨h6, e⟩ := He.ba e
  obtain ⟨h7, e⟩ := He.ba e
  obtain ⟨h1, e⟩ := He.ba e
  obtain ⟨h2, e⟩ := He.ba e
  obtain ⟨h3, e⟩ := He.ba e
  obtain ⟨h4, h5⟩ := He.ba e
  refine ⟨fun p hp => ?_, fun x hx => He.free_ok X G (List.all_eq_true.mp h2 x hx), fun x hx => ?_, fun p hp => ?_, fun x hx => He.glo_ok X G (List.all_eq_true.mp h5 x hx), fun x hx => PySem.W.mg_of X G (He.eqO_ok (List.all_eq_true.mp h6 x hx)), fun p hp => ?_, fun p hp => dicB_ok (List.all_eq_true.mp h8 p hp) (He.glo_ok X G (He.ba (List.all_eq_true.mp h8 p hp)).1) (kd p hp), fun p hp => ⟨He.cls_ok (He.ba (List.all_eq_true.mp i1 p hp)).1, He.noat_ok (He.ba (List.all_eq_true.mp i1 p hp)).2⟩, fun p hp => ⟨He.cls_ok (He.ba (List.all_eq_true.mp i2 p hp)).1, He.meth_ok (He.ba (List.all_eq_true.mp i2 p hp)).2⟩, fun c hc => ⟨He.glo_ok X G (He.ba (List.all_eq_true.mp i3 c hc)).1, He.mkr_ok (He.ba (List.all_eq_true.mp i3 c hc)).2⟩⟩
  · have z := List.all_eq_true.mp h1 p hp
    unfold conB at z
    split at z
    · rename_i u q
      obtain ⟨v, c⟩ := relD_ok _ _ z
      exact ⟨u, v, PySem.W.mg_of X G q, c⟩
    · cases z
  · obtain ⟨z1, z2⟩ := He.ba (List.all_eq_true.mp h3 x hx)
    exact ⟨He.glo_ok X G z1, z2⟩
  · obtain ⟨z1, z⟩ := He.ba (List.all_eq_true.mp h4 p hp)
    obtain ⟨z2, z⟩ := He.ba z
    obtain ⟨z3, z4⟩ := He.ba z
    exact ⟨He.glo_ok X G z1, of_decide_eq_true z2, of_decide_eq_true z3, excCB_ok z4⟩
  · obtain ⟨z1, z⟩ := He.ba (List.all_eq_true.mp h7 p hp)
    obtain ⟨z2, z⟩ := He.ba z
    obtain ⟨z3, z4⟩ := He.ba z
    exact ⟨He.free_ok X G z1, of_decide_eq_true z2, of_decide_eq_true z3, excCB_ok z4⟩
def subLook (c x : Str) : List ((Str × Str) × Bool) → Option Bool
  | [] => none
  | p :: r => if p.1.1 = c ∧ p.1.2 = x then some p.2 else subLook c x r
theorem subLook_mem {c x : Str} {b : Bool} : ∀ {l}, subLook c x l = some b → ((c, x), b) ∈ l
  | [], h => by cases h
  | p :: r, h => by
    unfold subLook at h
    split at h
    · rename_i e
      obtain ⟨⟨p1, p2⟩, p3⟩ := p
      obtain ⟨rfl, rfl⟩ := e
      cases h
      exact List.mem_cons_self
    · exact List.mem_cons_of_mem _ (subLook_mem h)
def look2 (c x : Str) : List (Str × Str) → Bool
  | [] => false
  | p :: r => if p.1 = c ∧ p.2 = x then true else look2 c x r
theorem look2_mem {c x : Str} : ∀ {l}, look2 c x l = true → (c, x) ∈ l
  | [], h => by cases h
  | p :: r, h => by
    unfold look2 at h
    split at h
    · rename_i e
      obtain ⟨p1, p2⟩ := p
      obtain ⟨rfl, rfl⟩ := e
      exact List.mem_cons_self
    · exact List.mem_cons_of_mem _ (look2_mem h)
/-- the table of a def: what the top holds, the defs that it calls -/
def Tb.tab (t : Tb) (fs : List (Str × (Nat × Fn))) : Tab := ⟨fun x => fs.lookup x, fun x => t.con.lookup x, fun x => t.free.contains x, fun x => t.exc.contains x, fun c x => subLook c x t.sub, fun x => t.gcd.contains x, fun c x => subLook c x t.subT, fun x => t.dic.lookup x, fun c f => look2 c f t.fld, fun _ _ => none, fun _ => none, fun _ => none⟩
def mthLook (c m : Str) : List ((Str × Str) × (Nat × Fn)) → Option (Nat × Fn)
  | [] => none
  | p :: r => if p.1.1 = c ∧ p.1.2 = m then some p.2 else mthLook c m r
theorem mthLook_mem {c m : Str} {b : Nat × Fn} : ∀ {l}, mthLook c m l = some b → ((c, m), b) ∈ l
  | [], h => by cases h
  | p :: r, h => by
    unfold mthLook at h
    split at h
    · rename_i e
      obtain ⟨⟨p1, p2⟩, p3⟩ := p
      obtain ⟨rfl, rfl⟩ := e
      cases h
      exact List.mem_cons_self
    · exact List.mem_cons_of_mem _ (mthLook_mem h)
/-- .. with methods, classes that it makes -/
def Tb.tabM (t : Tb) (fs : List (Str × (Nat × Fn))) (ms : List ((Str × Str) × (Nat × Fn))) (ks : List (Str × (Nat × Fn))) : Tab := { t.tab fs with mth := fun c m => mthLook c m ms, mkr := fun c => ks.lookup c }
/-- a called def -/
def Cal (P : Program) (w : World) (K : PySem.W.Frag) (mg : Str → Option Value) (base : Heap) (k : Nat) (x : Str) (n : Nat) (f : Fn) : Prop :=
  ∃ a fd ps, mg x = some (.ref a) ∧ PySem.W.keepIn K (.ref a) = true ∧ Binds K fd ps [] ∧ FnOk P w K mg base (L2.CX P w) k a fd ps (spD ⟨K, none, (P, w)⟩ n f) ∧ a = He.ga K x
def Cals (P : Program) (w : World) (K : PySem.W.Frag) (mg : Str → Option Value) (base : Heap) (k : Nat) (fs : List (Str × (Nat × Fn))) : Prop := ∀ p ∈ fs, Cal P w K mg base k p.1 p.2.1 p.2.2
theorem Cals.nil {P w K mg base k} : Cals P w K mg base k [] := fun p h => by cases h
theorem Cals.cons {P w K mg base k x n f fs} (h : Cal P w K mg base k x n f) (r : Cals P w K mg base k fs) : Cals P w K mg base k ((x, n, f) :: fs) := fun p hp => by
  rcases List.mem_cons.mp hp with e | e
  · subst e; exact h
  · exact r p e
theorem tab_ok {P : Program} {w : World} {K : PySem.W.Frag} {mg : Str → Option Value} {base : Heap} {k : Nat} {t : Tb} {gl : List Str} {fs : List (Str × (Nat × Fn))} (T : TbOk w K mg t gl) (C : Cals P w K mg base k fs) : TabOk P w K mg base (t.tab fs) k where
  fn := fun x n f h => C _ (lookup_mem (l := fs) h)
  con := fun x d h => by
    obtain ⟨u, v, h1, h2, h3, h4⟩ := T.con _ (lookup_mem (l := t.con) h)
    exact ⟨u, v, h1, h2, h3, h4⟩
  free := fun x h => T.free x (by simpa [Tb.tab] using h)
  exc := fun x h => T.exc x (by simpa [Tb.tab] using h)
  sub := fun c x b h => T.sub _ (subLook_mem h)
  gcd := fun x h => T.gcd x (by simpa [Tb.tab] using h)
  subT := fun c x b h => T.subT _ (subLook_mem h)
  dic := fun x l h => T.dic _ (lookup_mem (l := t.dic) h)
  fld := fun c f h => T.fld _ (look2_mem h)
  mth := fun c m n f h => nomatch h
  mkr := fun c n f h => nomatch h
  hot := fun c f h => nomatch h
def CalM (P : Program) (w : World) (K : PySem.W.Frag) (mg : Str → Option Value) (base : Heap) (k : Nat) (c m : Str) (n : Nat) (f : Fn) : Prop :=
  ∃ a fd ps, Cls K (He.ga K c) ∧ Meth K (He.ga K c) m a ∧ Binds K fd ps [] ∧ FnOk P w K mg base (L2.CX P w) k a fd ps (spD ⟨K, none, (P, w)⟩ n f)
def CalK (P : Program) (w : World) (K : PySem.W.Frag) (mg : Str → Option Value) (base : Heap) (k : Nat) (c : Str) (n : Nat) (f : Fn) : Prop :=
  mg c = some (.ref (He.ga K c)) ∧ ∃ j a fd ps, j + 1 ≤ k ∧ Mk K (He.ga K c) a ∧ Binds K fd ps [] ∧ FnOk P w K mg base (L2.CX P w) j a fd ps (spD ⟨K, none, (P, w)⟩ n f)
def CalsM (P : Program) (w : World) (K : PySem.W.Frag) (mg : Str → Option Value) (base : Heap) (k : Nat) (ms : List ((Str × Str) × (Nat × Fn))) : Prop := ∀ p ∈ ms, CalM P w K mg base k p.1.1 p.1.2 p.2.1 p.2.2
def CalsK (P : Program) (w : World) (K : PySem.W.Frag) (mg : Str → Option Value) (base : Heap) (k : Nat) (ks : List (Str × (Nat × Fn))) : Prop := ∀ p ∈ ks, CalK P w K mg base k p.1 p.2.1 p.2.2
theorem CalsM.nil {P w K mg base k} : CalsM P w K mg base k [] := fun p h => by cases h
theorem CalsK.nil {P w K mg base k} : CalsK P w K mg base k [] := fun p h => by cases h
theorem CalsM.cons {P w K mg base k c m n f fs} (h : CalM P w K mg base k c m n f) (r : CalsM P w K mg base k fs) : CalsM P w K mg base k (((c, m), n, f) :: fs) := fun p hp => by
  rcases List.mem_cons.mp hp with e | e
  · subst e; exact h
  · exact r p e
theorem CalsK.cons {P w K mg base k c n f fs} (h : CalK P w K mg base k c n f) (r : CalsK P w K mg base k fs) : CalsK P w K mg base k ((c, n, f) :: fs) := fun p hp => by
  rcases List.mem_cons.mp hp with e | e
  · subst e; exact h
  · exact r p e
theorem CalM.mono {P : Program} {w : World} {K : PySem.W.Frag} {mg : Str → Option Value} {base : Heap} {j k n : Nat} {c m : Str} {f : Fn} (x : CalM P w K mg base j c m n f) (h : j ≤ k) : CalM P w K mg base k c m n f := by
  obtain ⟨a, fd, ps, h1, h2, h3, h4⟩ := x
  exact ⟨a, fd, ps, h1, h2, h3, h4.mono h⟩
theorem CalK.mono {P : Program} {w : World} {K : PySem.W.Frag} {mg : Str → Option Value} {base : Heap} {j k n : Nat} {c : Str} {f : Fn} (x : CalK P w K mg base j c n f) (h : j ≤ k) : CalK P w K mg base k c n f := by
  obtain ⟨h0, i, a, fd, ps, h1, h2, h3, h4⟩ := x
  exact ⟨h0, i, a, fd, ps, Nat.le_trans h1 h, h2, h3, h4⟩
theorem tab_okM {P : Program} {w : World} {K : PySem.W.Frag} {mg : Str → Option Value} {base : Heap} {k : Nat} {t : Tb} {gl : List Str} {fs : List (Str × (Nat × Fn))} {ms : List ((Str × Str) × (Nat × Fn))} {ks : List (Str × (Nat × Fn))} (T : TbOk w K mg t gl) (C : Cals P w K mg base k fs) (M : CalsM P w K mg base k ms) (N : CalsK P w K mg base k ks) : TabOk P w K mg base (t.tabM fs ms ks) k :=
  { tab_ok T C with
    mth := fun c m n f h => M _ (mthLook_mem h)
    mkr := fun c n f h => N _ (lookup_mem (l := ks) h) }
/-! ### the Hook -/
abbrev AlX : Type := He.AlD × List (Option (List (Option (Str × Int))))
def obsX (t : Tb) (gl : List Str) (fn : List He.DefD) (K : PySem.W.Frag) : AlX := ((t.ok gl K && fn.all fun d => d.ok K, fn.map fun d => He.fnW K d.at_), t.dic.map fun p => He.dicW K (He.ga K p.1))
def valX (t : Tb) (fn : List He.DefD) (w : World) : AlX := ((true, fn.map He.DefD.val), t.dic.map fun p => some (He.keysIn w.params (p.2.map (·.1))))
def SaysX (t : Tb) (gl : List Str) (fn : List He.DefD) (w : World) (K : PySem.W.Frag) : Prop := obsX t gl fn K = valX t fn w
def obsXG (n : Nat) (t : Tb) (gl : List Str) (fn : List He.DefD) (g : Addr → Option Obj) : AlX := obsX t gl fn (He.frG g (He.asD g n))
def hookX (n : Nat) (t : Tb) (gl : List Str) (fn : List He.DefD) : PySem.W.Hook where
  α := AlX
  obs := fun s => obsXG n t gl fn s.heap.get?
  val := fun w => valX t fn w
  says := fun w h => ∃ K : PySem.W.Frag, K.In h ∧ SaysX t gl fn w K
  of := fun _ _ e => ⟨_, He.frG_in, e⟩
  keeps := fun _ _ _ ⟨K, hK, c⟩ k => ⟨K, PySem.W.Frag.In.keeps hK k, c⟩
def obX (n : Nat) (t : Tb) (gl : List Str) (fn : List He.DefD) (s : PySem.W.SharedT) : AlX := obsXG n t gl fn (HandSHeadRun.getT s)
theorem obX_eq {n : Nat} {t : Tb} {gl : List Str} {fn : List He.DefD} (s : PySem.W.SharedT) : obX n t gl fn s = (hookX n t gl fn).obs s.abs := by
  have e : HandSHeadRun.getT s = s.abs.heap.get? := funext fun a => HandSHeadRun.getT_eq s a
  unfold obX
  rw [e] <;> rfl
/-- .. over what these names reach -/
def refsAt (g : Addr → Option Obj) (a : Addr) : List Addr := match g a with
  | some o => He.refsD o
  | none => []
def reachN (g : Addr → Option Obj) : Nat → List Addr → List Addr
  | 0, as => as
  | n + 1, as => as ++ reachN g n (as.flatMap (refsAt g))
def asY (g : Addr → Option Obj) (xs : List Str) (n : Nat) : List Addr := (mainGlobals :: reachN g n (xs.map (He.ga (He.frG g [mainGlobals])))).eraseDups
def hookY (xs : List Str) (n : Nat) (t : Tb) (gl : List Str) (fn : List He.DefD) : PySem.W.Hook where
  α := AlX
  obs := fun s => obsX t gl fn (He.frG s.heap.get? (asY s.heap.get? xs n))
  val := fun w => valX t fn w
  says := fun w h => ∃ K : PySem.W.Frag, K.In h ∧ SaysX t gl fn w K
  of := fun _ _ e => ⟨_, He.frG_in, e⟩
  keeps := fun _ _ _ ⟨K, hK, c⟩ k => ⟨K, PySem.W.Frag.In.keeps hK k, c⟩
section
variable {w : World} {t : Tb} {gl : List Str} {fn : List He.DefD} {K : PySem.W.Frag}
theorem SaysX.tb (c : SaysX t gl fn w K) : t.ok gl K = true := (He.ba (show (t.ok gl K && fn.all fun d => d.ok K) = true from congrArg (fun z : AlX => z.1.1) c)).1
theorem SaysX.def_ (c : SaysX t gl fn w K) (i : Nat) {d : He.DefD} (h : fn[i]? = some d := by rfl) : ∃ fd, FunD K d.name d.qual d.params d.body d.scope (d.dvs K) (d.kws K) (He.fAd K d.at_) fd := by
  have c2 := (He.ba (show (t.ok gl K && fn.all fun d => d.ok K) = true from congrArg (fun z : AlX => z.1.1) c)).2
  have e : fn.map (fun d => He.fnW K d.at_) = fn.map He.DefD.val := congrArg (fun z : AlX => z.1.2) c
  have e2 : (fn.map fun d => He.fnW K d.at_)[i]? = (fn.map He.DefD.val)[i]? := by rw [e]
  rw [List.getElem?_map, List.getElem?_map, h] at e2
  exact He.DefD.funD (Option.some.inj e2) (List.all_eq_true.mp c2 d (List.mem_of_getElem? h))
theorem SaysX.kd (c : SaysX t gl fn w K) : ∀ p ∈ t.dic, ∃ es n, KDict K w (He.ga K p.1) es n := fun p hp => by
  have e : t.dic.map (fun p => He.dicW K (He.ga K p.1)) = t.dic.map fun p => some (He.keysIn w.params (p.2.map (·.1))) := congrArg (fun z : AlX => z.2) c
  exact He.dicW_ok (List.map_inj_left.mp e p hp)
end
/-- a def of the top, of no defaults; at another name of the module -/
def dA (a x : Str) (st : Stmt) : He.DefD := ⟨(a, none), x, x, defArgs st, defBody st, defScope st, [], []⟩
def dD (x : Str) (st : Stmt) : He.DefD := ⟨(x, none), x, x, defArgs st, defBody st, defScope st, [], []⟩
/-- a def stands at its name and keeps its promise -/
theorem cal_ofA {P : Program} {w : World} {K : PySem.W.Frag} {mg : Str → Option Value} {base : Heap} {t : Tb} {gl : List Str} {fn : List He.DefD} {fs : List (Str × (Nat × Fn))} {k n : Nat} {x a : Str} {st : Stmt} {N ps : List Str} (c : SaysX t gl fn w K) (T : TbOk w K mg t gl) (i : Nat)
    (h : fn[i]? = some (dA a x st)) (hg : a ∈ gl) (S : FnScope N ps (defScope st)) (hb : ∀ fd, FunD K x x (defArgs st) (defBody st) (defScope st) [] [] (He.ga K a) fd → Binds K fd ps []) (C : Cals P w K mg base k fs) (f : Fn)
    (hf : runF (cSs n (defSC N (defScope st) (t.tab fs) k) (defBody st)) ps.length N.length = f) : Cal P w K mg base (k + 1) a ps.length f := by
  obtain ⟨fd, F⟩ := c.def_ i h
  have F' : FunD K x x (defArgs st) (defBody st) (defScope st) [] [] (He.ga K a) fd := F
  refine ⟨_, fd, ps, T.glo a hg, F.kp, hb fd F', ?_, rfl⟩
  rw [← hf]
  exact def_ok F' S (tab_ok T C)
theorem cal_of {P : Program} {w : World} {K : PySem.W.Frag} {mg : Str → Option Value} {base : Heap} {t : Tb} {gl : List Str} {fn : List He.DefD} {fs : List (Str × (Nat × Fn))} {k n : Nat} {x : Str} {st : Stmt} {N ps : List Str} (c : SaysX t gl fn w K) (T : TbOk w K mg t gl) (i : Nat)
    (h : fn[i]? = some (dD x st)) (hg : x ∈ gl) (S : FnScope N ps (defScope st)) (hb : ∀ fd, FunD K x x (defArgs st) (defBody st) (defScope st) [] [] (He.ga K x) fd → Binds K fd ps []) (C : Cals P w K mg base k fs) (f : Fn)
    (hf : runF (cSs n (defSC N (defScope st) (t.tab fs) k) (defBody st)) ps.length N.length = f) : Cal P w K mg base (k + 1) x ps.length f := cal_ofA c T i h hg S hb C f hf
/-- .. over any table -/
theorem cal_ofT {P : Program} {w : World} {K : PySem.W.Frag} {mg : Str → Option Value} {base : Heap} {t : Tb} {gl : List Str} {fn : List He.DefD} {TT : Tab} {k n : Nat} {x a : Str} {st : Stmt} {N ps : List Str} (c : SaysX t gl fn w K) (T : TbOk w K mg t gl) (i : Nat)
    (h : fn[i]? = some (dA a x st)) (hg : a ∈ gl) (S : FnScope N ps (defScope st)) (hb : ∀ fd, FunD K x x (defArgs st) (defBody st) (defScope st) [] [] (He.ga K a) fd → Binds K fd ps []) (C : TabOk P w K mg base TT k) (f : Fn)
    (hf : runF (cSs n (defSC N (defScope st) TT k) (defBody st)) ps.length N.length = f) : Cal P w K mg base (k + 1) a ps.length f := by
  obtain ⟨fd, F⟩ := c.def_ i h
  have F' : FunD K x x (defArgs st) (defBody st) (defScope st) [] [] (He.ga K a) fd := F
  refine ⟨_, fd, ps, T.glo a hg, F.kp, hb fd F', ?_, rfl⟩
  rw [← hf]
  exact def_ok F' S C
/-- a method -/
def clsBody : Stmt → List Stmt
  | .ClassDef _ _ _ body _ _ _ _ _ _ _ => body
  | _ => []
def mthAt (st : Stmt) (j : Nat) : Stmt := (clsBody st).getD j (.Pass ⟨0, 0, 0, 0⟩)
def dM (c m q : Str) (st : Stmt) : He.DefD := ⟨(c, some m), m, q, defArgs st, defBody st, defScope st, [], []⟩
theorem calM_of {P : Program} {w : World} {K : PySem.W.Frag} {mg : Str → Option Value} {base : Heap} {t : Tb} {gl : List Str} {fn : List He.DefD} {TT : Tab} {k n : Nat} {x m q : Str} {st : Stmt} {N ps : List Str} (c : SaysX t gl fn w K) (T : TbOk w K mg t gl) (i : Nat)
    (h : fn[i]? = some (dM x m q st)) (hg : (x, m) ∈ t.mth) (S : FnScope N ps (defScope st)) (hb : ∀ fd, FunD K m q (defArgs st) (defBody st) (defScope st) [] [] (He.ma K (He.ga K x) m) fd → Binds K fd ps []) (C : TabOk P w K mg base TT k) (f : Fn)
    (hf : runF (cSs n (defSC N (defScope st) TT k) (defBody st)) ps.length N.length = f) : CalM P w K mg base (k + 1) x m ps.length f := by
  obtain ⟨fd, F⟩ := c.def_ i h
  have F' : FunD K m q (defArgs st) (defBody st) (defScope st) [] [] (He.ma K (He.ga K x) m) fd := F
  obtain ⟨h1, h2⟩ := T.mth _ hg
  refine ⟨_, fd, ps, h1, h2, hb fd F', ?_⟩
  rw [← hf]
  exact def_ok F' S C
theorem calK_of {P : Program} {w : World} {K : PySem.W.Frag} {mg : Str → Option Value} {base : Heap} {t : Tb} {gl : List Str} {fn : List He.DefD} {TT : Tab} {k n : Nat} {x q : Str} {st : Stmt} {N ps : List Str} (c : SaysX t gl fn w K) (T : TbOk w K mg t gl) (i : Nat)
    (h : fn[i]? = some (dM x "__init__" q st)) (hg : x ∈ t.mkr) (S : FnScope N ps (defScope st)) (hb : ∀ fd, FunD K "__init__" q (defArgs st) (defBody st) (defScope st) [] [] (He.ma K (He.ga K x) "__init__") fd → Binds K fd ps []) (C : TabOk P w K mg base TT k) (f : Fn)
    (hf : runF (cSs n (defSC N (defScope st) TT k) (defBody st)) ps.length N.length = f) : CalK P w K mg base (k + 2) x ps.length f := by
  obtain ⟨fd, F⟩ := c.def_ i h
  have F' : FunD K "__init__" q (defArgs st) (defBody st) (defScope st) [] [] (He.ma K (He.ga K x) "__init__") fd := F
  obtain ⟨h1, h2⟩ := T.mkr _ hg
  refine ⟨h1, k + 1, _, fd, ps, Nat.le_refl _, h2, hb fd F', ?_⟩
  rw [← hf]
  exact def_ok F' S C
/-- a def that is handed the error -/
def CalH (P : Program) (w : World) (K : PySem.W.Frag) (mg : Str → Option Value) (base : Heap) (k : Nat) (x : Str) (f : Str → Fn) : Prop := ∃ a fd y, mg x = some (.ref a) ∧ PySem.W.keepIn K (.ref a) = true ∧ Binds K fd [y] [] ∧ ∀ c, FnHot P w K mg base k a fd y c (f c)
theorem CalH.mono {P : Program} {w : World} {K : PySem.W.Frag} {mg : Str → Option Value} {base : Heap} {j k : Nat} {x : Str} {f : Str → Fn} (c : CalH P w K mg base j x f) (h : j ≤ k) : CalH P w K mg base k x f := by
  obtain ⟨a, fd, y, h1, h2, h3, h4⟩ := c
  exact ⟨a, fd, y, h1, h2, h3, fun c => (h4 c).mono h⟩
theorem calH_of {P : Program} {w : World} {K : PySem.W.Frag} {mg : Str → Option Value} {base : Heap} {t : Tb} {gl : List Str} {fn : List He.DefD} {TT : Tab} {k n : Nat} {x : Str} {st : Stmt} {N : List Str} {y : Str} (c : SaysX t gl fn w K) (T : TbOk w K mg t gl) (i : Nat)
    (h : fn[i]? = some (dD x st)) (hg : x ∈ gl) (S : FnScope N [y] (defScope st)) (hb : ∀ fd, FunD K x x (defArgs st) (defBody st) (defScope st) [] [] (He.ga K x) fd → Binds K fd [y] []) (C : TabOk P w K mg base TT k) (f : Str → Fn)
    (hf : ∀ d, runF (cSs n (hotSC N (defScope st) TT k d) (defBody st)) 0 N.length = f d) : CalH P w K mg base (k + 1) x f := by
  obtain ⟨fd, F⟩ := c.def_ i h
  have F' : FunD K x x (defArgs st) (defBody st) (defScope st) [] [] (He.ga K x) fd := F
  refine ⟨_, fd, y, T.glo x hg, F.kp, hb fd F', fun d => ?_⟩
  rw [← hf d]
  exact hot_ok F' S C d
def Tb.tabH (t : Tb) (fs : List (Str × (Nat × Fn))) (ms : List ((Str × Str) × (Nat × Fn))) (ks : List (Str × (Nat × Fn))) (hs : List (Str × (Str → Fn))) : Tab := { t.tabM fs ms ks with hot := fun c => hs.lookup c }
def CalsH (P : Program) (w : World) (K : PySem.W.Frag) (mg : Str → Option Value) (base : Heap) (k : Nat) (hs : List (Str × (Str → Fn))) : Prop := ∀ p ∈ hs, CalH P w K mg base k p.1 p.2
theorem CalsH.nil {P w K mg base k} : CalsH P w K mg base k [] := fun p h => by cases h
theorem CalsH.cons {P w K mg base k x f fs} (h : CalH P w K mg base k x f) (r : CalsH P w K mg base k fs) : CalsH P w K mg base k ((x, f) :: fs) := fun p hp => by
  rcases List.mem_cons.mp hp with e | e
  · subst e; exact h
  · exact r p e
theorem tab_okH {P : Program} {w : World} {K : PySem.W.Frag} {mg : Str → Option Value} {base : Heap} {k : Nat} {t : Tb} {gl : List Str} {fs : List (Str × (Nat × Fn))} {ms : List ((Str × Str) × (Nat × Fn))} {ks : List (Str × (Nat × Fn))} {hs : List (Str × (Str → Fn))} (T : TbOk w K mg t gl) (C : Cals P w K mg base k fs) (M : CalsM P w K mg base k ms) (N : CalsK P w K mg base k ks) (HH : CalsH P w K mg base k hs) : TabOk P w K mg base (t.tabH fs ms ks hs) k :=
  { tab_okM T C M N with
    hot := fun c f h => HH _ (lookup_mem (l := hs) h) }
/-- a def that calls itself, at the end of its levels -/
def noneF : Fn := fun _ _ => .stuck
theorem cal_none {P : Program} {w : World} {K : PySem.W.Frag} {mg : Str → Option Value} {base : Heap} {t : Tb} {gl : List Str} {fn : List He.DefD} {k : Nat} {x : Str} {st : Stmt} {ps : List Str} (c : SaysX t gl fn w K) (T : TbOk w K mg t gl) (i : Nat)
    (h : fn[i]? = some (dD x st)) (hg : x ∈ gl) (hb : ∀ fd, FunD K x x (defArgs st) (defBody st) (defScope st) [] [] (He.ga K x) fd → Binds K fd ps []) : Cal P w K mg base k x ps.length noneF := by
  obtain ⟨fd, F⟩ := c.def_ i h
  have F' : FunD K x x (defArgs st) (defBody st) (defScope st) [] [] (He.ga K x) fd := F
  exact ⟨_, fd, ps, T.glo x hg, F.kp, hb fd F', ⟨fun vs H Q E h => h.1, fun A outer s H args us vs Q E _ _ _ _ ⟨_, _, _, _, _, _, p⟩ => p.elim⟩, rfl⟩
theorem Cal.mono {P : Program} {w : World} {K : PySem.W.Frag} {mg : Str → Option Value} {base : Heap} {j k n : Nat} {x : Str} {f : Fn} (c : Cal P w K mg base j x n f) (h : j ≤ k) : Cal P w K mg base k x n f := by
  obtain ⟨a, fd, ps, h1, h2, h3, h4, h5⟩ := c
  exact ⟨a, fd, ps, h1, h2, h3, h4.mono h, h5⟩
/-- the law's def -/
structure LawOk (P : Program) (w : World) (K : PySem.W.Frag) (mg : Str → Option Value) (k : Nat) (f : Fn) : Prop where
  at_ : mg "law" = some (.ref (He.ga K "law"))
  ok : ∃ fd : FuncData, (∀ (s : Shared) (v : Value), BindsTo s fd ⟨[v], []⟩ [("script", v)]) ∧ ∀ base : Heap, K.In base → base.Ns mainGlobals mg → FnOk P w K mg base (L2.CX P w) k (He.ga K "law") fd ["script"] (spD ⟨K, none, (P, w)⟩ 1 f)
theorem law_of {P : Program} {w : World} {K : PySem.W.Frag} {mg : Str → Option Value} {t : Tb} {gl : List Str} {fn : List He.DefD} {fs : List (Str × (Nat × Fn))} {k : Nat} {st : Stmt} {N : List Str} (c : SaysX t gl fn w K) (T : TbOk w K mg t gl) (i : Nat)
    (h : fn[i]? = some (dD "law" st)) (hg : ("law" : Str) ∈ gl) (S : FnScope N ["script"] (defScope st)) (hb : ∀ fd, FunD K "law" "law" (defArgs st) (defBody st) (defScope st) [] [] (He.ga K "law") fd → ∀ (s : Shared) (us : List Value), us.length = 1 → BindsTo s fd ⟨us, []⟩ ((["script"] : List Str).zip us))
    (C : ∀ base : Heap, Cals P w K mg base k fs) (f : Fn) (hf : runF (cSs 400 (defSC N (defScope st) (t.tab fs) k) (defBody st)) 1 N.length = f) : LawOk P w K mg (k + 1) f := by
  obtain ⟨fd, F⟩ := c.def_ i h
  have F' : FunD K "law" "law" (defArgs st) (defBody st) (defScope st) [] [] (He.ga K "law") fd := F
  refine ⟨T.glo _ hg, fd, fun s v => hb fd F' s [v] rfl, fun base _ _ => ?_⟩
  rw [← hf]
  exact def_ok F' S (tab_ok T (C base))
theorem law_ofT {P : Program} {w : World} {K : PySem.W.Frag} {mg : Str → Option Value} {t : Tb} {gl : List Str} {fn : List He.DefD} {TT : Tab} {k : Nat} {st : Stmt} {N : List Str} (c : SaysX t gl fn w K) (T : TbOk w K mg t gl) (i : Nat)
    (h : fn[i]? = some (dD "law" st)) (hg : ("law" : Str) ∈ gl) (S : FnScope N ["script"] (defScope st)) (hb : ∀ fd, FunD K "law" "law" (defArgs st) (defBody st) (defScope st) [] [] (He.ga K "law") fd → ∀ (s : Shared) (us : List Value), us.length = 1 → BindsTo s fd ⟨us, []⟩ ((["script"] : List Str).zip us))
    (C : ∀ base : Heap, TabOk P w K mg base TT k) (f : Fn) (hf : runF (cSs 400 (defSC N (defScope st) TT k) (defBody st)) 1 N.length = f) : LawOk P w K mg (k + 1) f := by
  obtain ⟨fd, F⟩ := c.def_ i h
  have F' : FunD K "law" "law" (defArgs st) (defBody st) (defScope st) [] [] (He.ga K "law") fd := F
  refine ⟨T.glo _ hg, fd, fun s v => hb fd F' s [v] rfl, fun base _ _ => ?_⟩
  rw [← hf]
  exact def_ok F' S (C base)
theorem start_at {K : PySem.W.Frag} {H : Hp} {a : Addr} {ns : List Int} (hO : Only H) (hS : SqL K H a (ns.map V.int)) : FrzL K H a (ns.map V.int) := by
  rcases hS with (h | h) | h
  · rcases hO a with e | ⟨o, xs, e⟩
    · rw [h] at e; cases e
    · rw [h] at e; cases e
  · exact .inl h
  · exact .inr h
theorem law_end {l : PySem.W.OpenLaw} {k n : Nat} {q : Program} {loose : List Str} {XP : (Str → Option Value) → Heap → Prop} {d : DefRec} {t : Tb} {gl : List Str} {fn : List He.DefD} {f : Fn} (hn : l.most = some 63) (hdf : d.params.defaults = []) (hr : Room k callerA) (hd : d.name = "law")
    (F : ∀ (w : World) (K : PySem.W.Frag) (mg : Str → Option Value), SaysX t gl fn w K → TbOk w K mg t gl → LawOk l.prog w K mg k f)
    (pure : ∀ s : List Int, s.length ≤ 63 → ∃ h, f [.frl (s.map .int)] ⟨[], 0⟩ = .ok (.bl true) h) : PySem.W.WalkO q loose XP (hookX n t gl fn).says l.row.toRowW d [] (fun f vs => PySem.call f vs) := by
  refine Att.attach_call hn hdf fun w s0 s1 mg mb fa o pm cd doc a vs ns G Y ho hod hcd hmg hobj hints hlen hg => ?_
  obtain ⟨K, KX, c⟩ := Y
  have T : TbOk w K mg t gl := Tb.ok_is KX G.T.g c.tb c.kd
  obtain ⟨e1, fd, hb, hF⟩ := F w K mg c T
  have e2 : fa = He.ga K "law" := by
    rw [hd, e1] at hmg
    cases hmg; rfl
  rw [← e2] at hF
  refine law_call (x := "script") KX G.T.g G.T.b G.T.builtins G.T.nolimit hg hobj hints (Nat.le_trans hlen (by decide)) hr (fun base h1 h2 => hF base h1 h2) hb (fun H hO hS => ?_) fun H e s' z => ?_
  · obtain ⟨h', p⟩ := pure ns hlen
    refine ⟨rfl, [], [.frl (ns.map .int)], ⟨[], 0⟩, ⟨⟨rfl, List.nodup_nil, fun n c a h => by cases h⟩, ⟨Nat.le_refl _, fun n c h => by cases h⟩⟩, ⟨?_, ?_⟩, ?_⟩
    · unfold IsL
      refine ⟨_, _, rfl, ?_, by unfold IsL; rfl⟩
      unfold Is
      exact ⟨a, _, rfl, start_at hO hS, isL_ints ns⟩
    · show max (mrL (ns.map D.int)) 0 ≤ 0
      rw [mrL_ints]; exact Nat.le_refl _
    · rw [p]
      intro ρ' v H' _ r
      exact r.1.bl
  · obtain ⟨_, _, _, _, _, z⟩ := z
    exact z.2.2.2.2.2.2.2
end Dy

/-! Reckoning with the combinators: what they give, step by step. -/
namespace Dy
open PySem PySem.Spec PyProof.Rows L2
/-! ### results, taken on -/
section
variable {α β : Type} {e e1 : Env} {h h1 : PH} {a b u : SM} {c : Str} {d x y : D} {ds : List D} {s : Str} {n i j : Nat}
def Out.seq (o : Out) (b : SM) : Out := match o with
  | .nxt e1 h1 => b e1 h1
  | .ret d h1 => .ret d h1
  | .brk e1 h1 => .brk e1 h1
  | .cnt e1 h1 => .cnt e1 h1
  | .exc c e1 h1 => .exc c e1 h1
  | .stuck => .stuck
@[simp] theorem seqS_ap : seqS a b e h = (a e h).seq b := rfl
theorem Out.seq_cg {o o' : Out} (q : o = o') : o.seq b = o'.seq b := by rw [q]
@[simp] theorem seq_nxt : (Out.nxt e h).seq b = b e h := rfl
@[simp] theorem seq_ret : (Out.ret d h).seq b = .ret d h := rfl
@[simp] theorem seq_brk : (Out.brk e h).seq b = .brk e h := rfl
@[simp] theorem seq_cnt : (Out.cnt e h).seq b = .cnt e h := rfl
@[simp] theorem seq_exc : (Out.exc c e h).seq b = .exc c e h := rfl
theorem Res.bind_cg {r r' : Res α} {f : α → PH → Res β} (q : r = r') : r.bind f = r'.bind f := by rw [q]
theorem Res.bindS_cg {r r' : Res α} {f : α → PH → Out} (q : r = r') : r.bindS e f = r'.bindS e f := by rw [q]
@[simp] theorem bind_ok {v : α} {f : α → PH → Res β} : (Res.ok v h).bind f = f v h := rfl
@[simp] theorem bind_exc {f : α → PH → Res β} : (Res.exc c h).bind f = .exc c h := rfl
theorem bindS_ok {v : α} {f : α → PH → Out} : (Res.ok v h).bindS e f = f v h := rfl
theorem bindS_exc {f : α → PH → Out} : (Res.exc c h : Res α).bindS e f = .exc c e h := rfl
def Res.ifS (r : Res Bool) (e : Env) (a b : SM) : Out := r.bindS e fun c h1 => match c with
  | true => a e h1
  | false => b e h1
@[simp] theorem ifS_ap {t : TM} : ifS t a b e h = (t e h).ifS e a b := rfl
theorem Res.ifS_cg {r r' : Res Bool} (q : r = r') : r.ifS e a b = r'.ifS e a b := by rw [q]
@[simp] theorem ifS_true : (Res.ok true h).ifS e a b = a e h := rfl
@[simp] theorem ifS_false : (Res.ok false h).ifS e a b = b e h := rfl
@[simp] theorem ifS_exc : (Res.exc c h).ifS e a b = .exc c e h := rfl
/-- tests -/
def Res.orR (r : Res Bool) (e : Env) (u : TM) : Res Bool := r.bind fun b h1 => match b with
  | true => .ok true h1
  | false => u e h1
def Res.andR (r : Res Bool) (e : Env) (u : TM) : Res Bool := r.bind fun b h1 => match b with
  | true => u e h1
  | false => .ok false h1
@[simp] theorem orT_ap {t u : TM} : orT t u e h = (t e h).orR e u := rfl
@[simp] theorem andT_ap {t u : TM} : andT t u e h = (t e h).andR e u := rfl
theorem Res.orR_cg {r r' : Res Bool} {u : TM} (q : r = r') : r.orR e u = r'.orR e u := by rw [q]
theorem Res.andR_cg {r r' : Res Bool} {u : TM} (q : r = r') : r.andR e u = r'.andR e u := by rw [q]
def pick {α : Type} (b : Bool) (x y : Res α) : Res α := match b with
  | true => x
  | false => y
@[simp] theorem orR_ok {b : Bool} {u : TM} : (Res.ok b h).orR e u = pick b (.ok true h) (u e h) := by cases b <;> rfl
@[simp] theorem andR_ok {b : Bool} {u : TM} : (Res.ok b h).andR e u = pick b (u e h) (.ok false h) := by cases b <;> rfl
@[simp] theorem pick_true {x y : Res α} : pick true x y = x := rfl
@[simp] theorem pick_false {x y : Res α} : pick false x y = y := rfl
@[simp] theorem pick_or {b k : Bool} : pick b (.ok true h) (.ok k h) = .ok (b || k) h := by cases b <;> rfl
@[simp] theorem pick_and {b k : Bool} : pick b (.ok k h) (.ok false h) = .ok (b && k) h := by cases b <;> rfl
@[simp] theorem pick_int {b : Bool} {i j : Int} : pick b (.ok (D.int i) h) (.ok (D.int j) h) = .ok (D.int (bif b then i else j)) h := by cases b <;> rfl
@[simp] theorem pick_bl {b : Bool} {i j : Bool} : pick b (.ok (D.bl i) h) (.ok (D.bl j) h) = .ok (D.bl (bif b then i else j)) h := by cases b <;> rfl
@[simp] theorem pick_str {b : Bool} {i j : Str} : pick b (.ok (D.str i) h) (.ok (D.str j) h) = .ok (D.str (bif b then i else j)) h := by cases b <;> rfl
def Res.tb (r : Res D) : Res Bool := r.bind fun d h1 => match d with
  | .bl b => .ok b h1
  | _ => .stuck
@[simp] theorem tbT_ap {m : EM} : tbT m e h = (m e h).tb := rfl
@[simp] theorem tb_ok {b : Bool} : (Res.ok (.bl b) h).tb = .ok b h := rfl
def Res.tr (r : Res D) : Res Bool := r.bind fun d h1 => match truth d h1 with
  | some b => .ok b h1
  | none => .stuck
@[simp] theorem trT_ap {m : EM} : trT m e h = (m e h).tr := rfl
@[simp] theorem tr_bl {b : Bool} : (Res.ok (.bl b) h).tr = .ok b h := rfl
@[simp] theorem tr_int {b : Int} : (Res.ok (.int b) h).tr = .ok (b != 0) h := rfl
theorem notT_ap {t : TM} : notT t e h = (t e h).bind fun b h1 => .ok (!b) h1 := rfl
def Res.andD (r : Res D) (e : Env) (b : EM) : Res D := r.bind fun d h1 => match truth d h1 with
  | some true => b e h1
  | some false => .ok d h1
  | none => .stuck
def Res.orD (r : Res D) (e : Env) (b : EM) : Res D := r.bind fun d h1 => match truth d h1 with
  | some true => .ok d h1
  | some false => b e h1
  | none => .stuck
@[simp] theorem andE_ap {x y : EM} : andE x y e h = (x e h).andD e y := rfl
@[simp] theorem orE_ap {x y : EM} : orE x y e h = (x e h).orD e y := rfl
theorem Res.andD_cg {r r' : Res D} {y : EM} (q : r = r') : r.andD e y = r'.andD e y := by rw [q]
theorem Res.orD_cg {r r' : Res D} {y : EM} (q : r = r') : r.orD e y = r'.orD e y := by rw [q]
@[simp] theorem andD_bl {b : Bool} {y : EM} : (Res.ok (.bl b) h).andD e y = pick b (y e h) (.ok (.bl false) h) := by cases b <;> rfl
@[simp] theorem orD_bl {b : Bool} {y : EM} : (Res.ok (.bl b) h).orD e y = pick b (.ok (.bl true) h) (y e h) := by cases b <;> rfl
def Res.ifE (r : Res Bool) (e : Env) (a b : EM) : Res D := r.bind fun c h1 => match c with
  | true => a e h1
  | false => b e h1
@[simp] theorem ifE_ap {t : TM} {x y : EM} : ifE t x y e h = (t e h).ifE e x y := rfl
theorem Res.ifE_cg {r r' : Res Bool} {x y : EM} (q : r = r') : r.ifE e x y = r'.ifE e x y := by rw [q]
@[simp] theorem ifE_ok {b : Bool} {x y : EM} : (Res.ok b h).ifE e x y = pick b (x e h) (y e h) := by cases b <;> rfl
/-! ### expressions -/
@[simp] theorem cE_ap : cE d e h = .ok d h := rfl
theorem vE_0 {o : Option D} {r : Env} : vE 0 (o :: r) h = (match o with | some d => .ok d h | none => .stuck) := by cases o <;> rfl
theorem vE_at (q : e[i]? = some (some d)) : vE i e h = .ok d h := by unfold vE; rw [q]
@[simp] theorem u1E_ap {f : D → PH → Res D} {x : EM} : u1E f x e h = (x e h).bind f := rfl
theorem b2E_ap {f : D → D → PH → Res D} {x y : EM} : b2E f x y e h = (x e h).bind fun v h1 => (y e h1).bind fun w h2 => f v w h2 := rfl
@[simp] theorem nA_ap {f : List D → PH → Res D} {x : AM} : nA f x e h = (x e h).bind f := rfl
@[simp] theorem nilA_ap : nilA e h = .ok [] h := rfl
theorem consA_ap {x : EM} {y : AM} : consA x y e h = (x e h).bind fun v h1 => (y e h1).bind fun w h2 => .ok (v :: w) h2 := rfl
def Res.b2 (r : Res D) (f : D → D → PH → Res D) (y : EM) (e : Env) : Res D := r.bind fun v h1 => (y e h1).bind (f v)
@[simp] theorem b2E_fr {f : D → D → PH → Res D} {x y : EM} : b2E f x y e h = (x e h).b2 f y e := rfl
@[simp] theorem b2_ok {f : D → D → PH → Res D} {y : EM} : (Res.ok d h).b2 f y e = (y e h).bind (f d) := rfl
@[simp] theorem b2_exc {f : D → D → PH → Res D} {y : EM} : (Res.exc c h).b2 f y e = .exc c h := rfl
def Res.c1 (r : Res D) (y : AM) (e : Env) : Res (List D) := r.bind fun v h1 => (y e h1).bind fun w h2 => .ok (v :: w) h2
def Res.c2 (r : Res (List D)) (v : D) : Res (List D) := r.bind fun w h2 => .ok (v :: w) h2
@[simp] theorem consA_fr {x : EM} {y : AM} : consA x y e h = (x e h).c1 y e := rfl
@[simp] theorem c1_ok {y : AM} : (Res.ok d h).c1 y e = (y e h).c2 d := rfl
@[simp] theorem c1_exc {y : AM} : (Res.exc c h).c1 y e = .exc c h := rfl
@[simp] theorem c2_ok : (Res.ok ds h).c2 d = .ok (d :: ds) h := rfl
@[simp] theorem c2_exc : (Res.exc c h).c2 d = .exc c h := rfl
@[simp] theorem tupF_ap (q : ds.length ≤ 16777216) : tupF ds h = .ok (.tup ds) h := by
  unfold tupF
  rw [if_pos q]
@[simp] theorem f1_ap {f : D → PH → Res D} : f1 f [d] h = f d h := rfl
@[simp] theorem f2_ap {f : D → D → PH → Res D} : f2 f [x, y] h = f x y h := rfl
def Res.ch (r : Res D) (g : D → D → PH → Res D) (y : D) (e : Env) (c : EM) : Res D := r.bind fun z h3 => match z with
  | .bl true => (c e h3).bind fun w h4 => g y w h4
  | .bl false => .ok (.bl false) h3
  | _ => .stuck
theorem chE_ap {f g : D → D → PH → Res D} {k l m : EM} : chE f g k l m e h = (k e h).bind fun v h1 => (l e h1).bind fun w h2 => (f v w h2).ch g w e m := rfl
theorem Res.ch_cg {r r' : Res D} {g : D → D → PH → Res D} {m : EM} (q : r = r') : r.ch g y e m = r'.ch g y e m := by rw [q]
def Res.ch1 (r : Res D) (f g : D → D → PH → Res D) (l m : EM) (e : Env) : Res D := r.bind fun v h1 => (l e h1).bind fun w h2 => (f v w h2).ch g w e m
def Res.ch2 (r : Res D) (f g : D → D → PH → Res D) (v : D) (m : EM) (e : Env) : Res D := r.bind fun w h2 => (f v w h2).ch g w e m
@[simp] theorem chE_fr {f g : D → D → PH → Res D} {k l m : EM} : chE f g k l m e h = (k e h).ch1 f g l m e := rfl
@[simp] theorem ch1_ok {f g : D → D → PH → Res D} {l m : EM} : (Res.ok d h).ch1 f g l m e = (l e h).ch2 f g d m e := rfl
@[simp] theorem ch2_ok {f g : D → D → PH → Res D} {m : EM} : (Res.ok y h).ch2 f g d m e = (f d y h).ch g y e m := rfl
@[simp] theorem ch_bl {b : Bool} {g : D → D → PH → Res D} {m : EM} : (Res.ok (.bl b) h).ch g y e m = pick b ((m e h).bind (g y)) (.ok (.bl false) h) := by cases b <;> rfl
def Res.c31 (r : Res D) (f g k : D → D → PH → Res D) (m n o : EM) (e : Env) : Res D := r.bind fun x h1 => (m e h1).bind fun y h2 => (f x y h2).bind fun z h3 => match z with
  | .bl true => (n e h3).bind fun w h4 => (g y w h4).ch k w e o
  | .bl false => .ok (.bl false) h3
  | _ => .stuck
def Res.c32 (r : Res D) (f g k : D → D → PH → Res D) (x : D) (n o : EM) (e : Env) : Res D := r.bind fun y h2 => (f x y h2).bind fun z h3 => match z with
  | .bl true => (n e h3).bind fun w h4 => (g y w h4).ch k w e o
  | .bl false => .ok (.bl false) h3
  | _ => .stuck
def Res.c33 (r : Res D) (g k : D → D → PH → Res D) (y : D) (n o : EM) (e : Env) : Res D := r.bind fun z h3 => match z with
  | .bl true => (n e h3).bind fun w h4 => (g y w h4).ch k w e o
  | .bl false => .ok (.bl false) h3
  | _ => .stuck
def Res.c34 (r : Res D) (g k : D → D → PH → Res D) (y : D) (o : EM) (e : Env) : Res D := r.bind fun w h4 => (g y w h4).ch k w e o
@[simp] theorem ch3E_fr {f g k : D → D → PH → Res D} {l m n o : EM} : ch3E f g k l m n o e h = (l e h).c31 f g k m n o e := by
  unfold ch3E Res.c31 Res.ch
  congr 1
@[simp] theorem c31_ok {f g k : D → D → PH → Res D} {m n o : EM} : (Res.ok d h).c31 f g k m n o e = (m e h).c32 f g k d n o e := rfl
@[simp] theorem c32_ok {f g k : D → D → PH → Res D} {n o : EM} : (Res.ok y h).c32 f g k d n o e = (f d y h).c33 g k y n o e := rfl
@[simp] theorem c33_bl {b : Bool} {g k : D → D → PH → Res D} {n o : EM} : (Res.ok (.bl b) h).c33 g k y n o e = pick b ((n e h).c34 g k y o e) (.ok (.bl false) h) := by cases b <;> rfl
@[simp] theorem c34_ok {g k : D → D → PH → Res D} {o : EM} : (Res.ok d h).c34 g k y o e = (g y d h).ch k d e o := rfl
/-! ### dicts of the module -/
theorem dIx_ap {x z : Str} {l : List (Str × D)} {d : D} (q : l.lookup z = some d) : dIx x l (.glb x) (.str z) h = .ok d h := by
  show (if x = x then (match l.lookup z with | some d => Res.ok d h | none => .stuck) else .stuck) = _
  rw [if_pos rfl, q]
@[simp] theorem dIn_ap {x z : Str} {l : List (Str × D)} : dIn x l (.str z) (.glb x) h = .ok (.bl (l.lookup z).isSome) h := by
  show (if x = x then _ else _) = _
  rw [if_pos rfl]
@[simp] theorem dNotIn_ap {x z : Str} {l : List (Str × D)} : dNotIn x l (.str z) (.glb x) h = .ok (.bl (!(l.lookup z).isSome)) h := by
  show (if x = x then _ else _) = _
  rw [if_pos rfl]
/-! ### numbers -/
variable {k l : Int}
@[simp] theorem addF_int : addF (.int k) (.int l) h = .ok (.int (k + l)) h := rfl
@[simp] theorem subF_int : subF (.int k) (.int l) h = .ok (.int (k - l)) h := rfl
@[simp] theorem negF_int : negF (.int k) h = .ok (.int (-k)) h := rfl
@[simp] theorem ltF_int : ltF (.int k) (.int l) h = .ok (.bl (decide (k < l))) h := rfl
@[simp] theorem leF_int : leF (.int k) (.int l) h = .ok (.bl (decide (k ≤ l))) h := rfl
@[simp] theorem gtF_int : gtF (.int k) (.int l) h = .ok (.bl (decide (l < k))) h := rfl
@[simp] theorem geF_int : geF (.int k) (.int l) h = .ok (.bl (decide (l ≤ k))) h := rfl
@[simp] theorem eqF_int : eqF (.int k) (.int l) h = .ok (.bl (decide (k = l))) h := rfl
@[simp] theorem neF_int : neF (.int k) (.int l) h = .ok (.bl (!decide (k = l))) h := rfl
@[simp] theorem eqF_str {k l : Str} : eqF (.str k) (.str l) h = .ok (.bl (decide (k = l))) h := rfl
@[simp] theorem neF_str {k l : Str} : neF (.str k) (.str l) h = .ok (.bl (!decide (k = l))) h := rfl
@[simp] theorem eqF_bl {k l : Bool} : eqF (.bl k) (.bl l) h = .ok (.bl (decide (k = l))) h := rfl
@[simp] theorem neF_bl {k l : Bool} : neF (.bl k) (.bl l) h = .ok (.bl (!decide (k = l))) h := rfl
@[simp] theorem isF_non : isF d .non h = .ok (.bl (isNonD d)) h := rfl
@[simp] theorem isNotF_non : isNotF d .non h = .ok (.bl (!isNonD d)) h := rfl
@[simp] theorem intF_int : intF (.int k) h = .ok (.int k) h := rfl
@[simp] theorem intF_bl {b : Bool} : intF (.bl b) h = .ok (.int (if b then 1 else 0)) h := rfl
@[simp] theorem absF_int : absF (.int k) h = .ok (.int (if k < 0 then -k else k)) h := rfl
@[simp] theorem max2F_int : max2F (.int k) (.int l) h = .ok (.int (if l > k then l else k)) h := rfl
@[simp] theorem min2F_int : min2F (.int k) (.int l) h = .ok (.int (if l < k then l else k)) h := rfl
theorem log2_small {m : Nat} (q : l.natAbs < 2 ^ m) (z : 0 < m) : l.natAbs.log2 < m := by
  by_cases e : l.natAbs = 0
  · rw [e]; exact z
  · exact (Nat.log2_lt e).mpr q
/-- numbers of at most 4000 bits: small enough for all that is asked of sizes -/
def sm (i : Int) : Prop := i.natAbs < 2 ^ 4000
@[simp] theorem modF_int (q : 0 < l) (z : sm l) : modF (.int k) (.int l) h = .ok (.int (k % l)) h := by
  have : l.natAbs.log2 < 4000 := log2_small z (by omega)
  unfold modF stepI
  simp [q]
@[simp] theorem fdivF_int (q : 0 < l) (z : sm l) : fdivF (.int k) (.int l) h = .ok (.int (k / l)) h := by
  have : l.natAbs.log2 < 4000 := log2_small z (by omega)
  have c : 0 < l ∧ l.natAbs.log2 < 9000 := ⟨q, by omega⟩
  unfold fdivF stepI
  simp only [if_pos c]
@[simp] theorem mulF_int (q : sm k) (z : sm l) : mulF (.int k) (.int l) h = .ok (.int (k * l)) h := by
  have h1 : l.natAbs.log2 < 4000 := log2_small z (by omega)
  have h2 : k.natAbs.log2 < 4000 := log2_small q (by omega)
  have c : bitsOk k l = true := by unfold bitsOk; exact Nat.ble_eq_true_of_le (by omega)
  show iMul (.int k) (.int l) h = _
  unfold iMul stepI
  simp only [if_pos c]
@[simp] theorem powF_int (q : 0 ≤ l ∧ l ≤ 1000000 ∧ k.natAbs < 2 ^ 64) : powF (.int k) (.int l) h = .ok (.int (k ^ l.toNat)) h := by
  have q : 0 ≤ l ∧ powOk k l = true := ⟨q.1, (powOk_iff q.1).mpr q.2⟩
  unfold powF stepI
  simp only [if_pos q]
theorem shlF_big (q : 0 ≤ l ∧ l ≤ 1000000) (z : sm k) : shlF (.int k) (.int l) h = .ok (.int (k * 2 ^ l.toNat)) h := by
  have h2 : k.natAbs.log2 < 4000 := log2_small z (by omega)
  have c : 0 ≤ l ∧ shlOk k l = true := ⟨q.1, (shlOk_iff q.1).mpr ⟨q.2, by omega⟩⟩
  unfold shlF stepI
  simp only [if_pos c]
@[simp] theorem shlF_int (q : 0 ≤ l ∧ l ≤ 1000000 ∧ k.natAbs < 2 ^ 64) : shlF (.int k) (.int l) h = .ok (.int (k * 2 ^ l.toNat)) h :=
  shlF_big ⟨q.1, q.2.1⟩ (Nat.lt_of_lt_of_le q.2.2 (Nat.pow_le_pow_right (by omega) (by omega)))
@[simp] theorem shrF_int (q : 0 ≤ l) : shrF (.int k) (.int l) h = .ok (.int (k / 2 ^ l.toNat)) h := by
  unfold shrF stepI
  simp only [if_pos q]
theorem sm_of {i : Int} {n : Nat} (q : i.natAbs < 2 ^ n) (z : n ≤ 4000) : sm i := Nat.lt_of_lt_of_le q (Nat.pow_le_pow_right (by omega) z)
@[simp] theorem sm_lt {i : Int} (q : -18446744073709551616 < i) (z : i < 18446744073709551616) : sm i := sm_of (n := 64) (by omega) (by omega)
/-! ### statements -/
@[simp] theorem nextS_ap : nextS e h = .nxt e h := rfl
@[simp] theorem brkS_ap : brkS e h = .brk e h := rfl
@[simp] theorem cntS_ap : cntS e h = .cnt e h := rfl
theorem retS_ap {m : EM} : retS m e h = (m e h).bindS e fun d h1 => .ret d h1 := rfl
@[simp] theorem retNS_ap : retNS e h = .ret .non h := rfl
@[simp] theorem raiseS_ap : raiseS c e h = .exc c e h := rfl
theorem exprS_ap {m : EM} : exprS m e h = (m e h).bindS e fun _ h1 => .nxt e h1 := rfl
def asgO (t : Tgt) (d : D) (e : Env) (h : PH) : Out := match tgt t d e h with
  | some e1 => .nxt e1 h
  | none => .stuck
theorem asgS_ap {m : EM} {t : Tgt} : asgS m t e h = (m e h).bindS e fun d h1 => asgO t d e h1 := rfl
@[simp] theorem asgO_one : asgO (.one i) d e h = .nxt (e.set i (some d)) h := rfl
def Res.rt (r : Res D) (e : Env) : Out := r.bindS e fun d h1 => .ret d h1
@[simp] theorem retS_fr {m : EM} : retS m e h = (m e h).rt e := rfl
@[simp] theorem rt_ok : (Res.ok d h).rt e = .ret d h := rfl
@[simp] theorem rt_exc : (Res.exc c h).rt e = .exc c e h := rfl
def Res.ex (r : Res D) (e : Env) : Out := r.bindS e fun _ h1 => .nxt e h1
@[simp] theorem exprS_fr {m : EM} : exprS m e h = (m e h).ex e := rfl
@[simp] theorem ex_ok : (Res.ok d h).ex e = .nxt e h := rfl
@[simp] theorem ex_exc : (Res.exc c h).ex e = .exc c e h := rfl
def Res.asg (r : Res D) (t : Tgt) (e : Env) : Out := r.bindS e fun d h1 => asgO t d e h1
@[simp] theorem asgS_fr {m : EM} {t : Tgt} : asgS m t e h = (m e h).asg t e := rfl
@[simp] theorem asg_ok {t : Tgt} : (Res.ok d h).asg t e = asgO t d e h := rfl
@[simp] theorem asg_exc {t : Tgt} : (Res.exc c h).asg t e = .exc c e h := rfl
@[simp] theorem tgt_one : tgt (.one i) d e h = some (e.set i (some d)) := rfl
@[simp] theorem tgt_tup {is : List Nat} (q : ds.length = is.length) : tgt (.many is) (.tup ds) e h = some (setAll is ds e) := by
  show (if ds.length = is.length then _ else none) = _
  rw [if_pos q]
@[simp] theorem asgO_tup {is : List Nat} (q : ds.length = is.length) : asgO (.many is) (.tup ds) e h = .nxt (setAll is ds e) h := by
  unfold asgO
  rw [tgt_tup q]
theorem parS_ap {m : AM} : parS m i j e h = (m e h).bindS e fun vs h1 => match vs with
  | [v, w] => .nxt ((e.set i (some v)).set j (some w)) h1
  | _ => .stuck := rfl
def setO (x k d : D) (e : Env) (h : PH) : Out := match setIx x k d h with
  | some h4 => .nxt e h4
  | none => .stuck
theorem sixS_ap {m o x : EM} : sixS m o x e h = (m e h).bindS e fun d h1 => (o e h1).bindS e fun v h2 => (x e h2).bindS e fun k h3 => setO v k d e h3 := rfl
def Res.s1 (r : Res D) (o x : EM) (e : Env) : Out := r.bindS e fun d h1 => (o e h1).bindS e fun v h2 => (x e h2).bindS e fun k h3 => setO v k d e h3
def Res.s2 (r : Res D) (d : D) (x : EM) (e : Env) : Out := r.bindS e fun v h2 => (x e h2).bindS e fun k h3 => setO v k d e h3
def Res.s3 (r : Res D) (d v : D) (e : Env) : Out := r.bindS e fun k h3 => setO v k d e h3
@[simp] theorem sixS_fr {m o x : EM} : sixS m o x e h = (m e h).s1 o x e := rfl
@[simp] theorem s1_ok {o x : EM} : (Res.ok d h).s1 o x e = (o e h).s2 d x e := rfl
@[simp] theorem s1_exc {o x : EM} : (Res.exc c h).s1 o x e = .exc c e h := rfl
@[simp] theorem s2_ok {x : EM} : (Res.ok y h).s2 d x e = (x e h).s3 d y e := rfl
@[simp] theorem s3_ok : (Res.ok y h).s3 d x e = setO x y d e h := rfl
def Res.ps (r : Res (List D)) (i j : Nat) (e : Env) : Out := r.bindS e fun vs h1 => match vs with
  | [v, w] => .nxt ((e.set i (some v)).set j (some w)) h1
  | _ => .stuck
@[simp] theorem parS_fr {m : AM} : parS m i j e h = (m e h).ps i j e := rfl
@[simp] theorem ps_ok : (Res.ok [x, y] h).ps i j e = .nxt ((e.set i (some x)).set j (some y)) h := rfl
def Res.nt (r : Res Bool) : Res Bool := r.bind fun b h1 => .ok (!b) h1
@[simp] theorem notT_fr {t : TM} : notT t e h = (t e h).nt := rfl
@[simp] theorem nt_ok {b : Bool} : (Res.ok b h).nt = .ok (!b) h := rfl
@[simp] theorem notF_bl {b : Bool} : notF (.bl b) h = .ok (.bl (!b)) h := rfl
/-! ### calls -/
def Out.fin (o : Out) (l : Nat) : Res D := match o with
  | .nxt _ h1 => finF l .non h1
  | .ret d h1 => finF l d h1
  | .exc c _ h1 => .exc c (h1.cut (max l h1.lim))
  | _ => .stuck
theorem Out.fin_cg {o o' : Out} {l : Nat} (q : o = o') : o.fin l = o'.fin l := by rw [q]
@[simp] theorem runF_ap {np nn : Nat} (q : ds.length = np) : runF b np nn ds h = (b (ds.map some ++ List.replicate (nn - np) none) h).fin h.cs.length := by
  unfold runF
  rw [if_pos q]
  cases b (ds.map some ++ List.replicate (nn - np) none) h <;> rfl
@[simp] theorem fin_nxt {l : Nat} : (Out.nxt e h).fin l = .ok .non (h.cut (max l h.lim)) := by
  show Res.ok D.non (h.cut (max l (max h.lim (D.mr .non)))) = _
  have : max h.lim (D.mr .non) = h.lim := by show max h.lim 0 = _; omega
  rw [this]
@[simp] theorem fin_ret {l : Nat} : (Out.ret d h).fin l = .ok d (h.cut (max l (max h.lim d.mr))) := rfl
@[simp] theorem fin_exc {l : Nat} : (Out.exc c e h).fin l = .exc c (h.cut (max l h.lim)) := rfl
@[simp] theorem callF_ap {f : Fn} (q : ds.length = n) : callF n f ds h = f ds h := by unfold callF; rw [if_pos q]
@[simp] theorem cut_max {m : Nat} : h.cut (max h.cs.length m) = h := by
  unfold PH.cut
  rw [List.take_of_length_le (by omega)]
theorem cut_ge {m : Nat} (q : h.cs.length ≤ m) : h.cut m = h := by
  unfold PH.cut
  rw [List.take_of_length_le q]
/-! ### tries -/
def Out.tryO (o : Out) (v : Option Nat) (sub : Str → Option Bool) (suite : Str → SM) : Out := match o with
  | .exc c e1 h1 => (match sub c with
    | some true => (match v with
      | some i => if i < e1.length then unb v (suite c (e1.set i none) h1) else .stuck
      | none => unb v (suite c e1 h1))
    | some false => .exc c e1 h1
    | none => .stuck)
  | .nxt e1 h1 => .nxt e1 h1
  | .ret d h1 => .ret d h1
  | .brk e1 h1 => .brk e1 h1
  | .cnt e1 h1 => .cnt e1 h1
  | .stuck => .stuck
@[simp] theorem tryS_ap {v : Option Nat} {sub : Str → Option Bool} {suite : Str → SM} : tryS b v sub suite e h = (b e h).tryO v sub suite := by
  unfold tryS Out.tryO
  cases b e h <;> rfl
theorem Out.tryO_cg {o o' : Out} {v : Option Nat} {sub : Str → Option Bool} {suite : Str → SM} (q : o = o') : o.tryO v sub suite = o'.tryO v sub suite := by rw [q]
@[simp] theorem try_nxt {v : Option Nat} {sub : Str → Option Bool} {suite : Str → SM} : (Out.nxt e h).tryO v sub suite = .nxt e h := rfl
@[simp] theorem try_ret {v : Option Nat} {sub : Str → Option Bool} {suite : Str → SM} : (Out.ret d h).tryO v sub suite = .ret d h := rfl
@[simp] theorem try_exc {sub : Str → Option Bool} {suite : Str → SM} (q : sub c = some true) (z : i < e.length) : (Out.exc c e h).tryO (some i) sub suite = unb (some i) (suite c (e.set i none) h) := by
  show (match sub c with
    | some true => if i < e.length then unb (some i) (suite c (e.set i none) h) else .stuck
    | some false => .exc c e h
    | none => .stuck) = _
  rw [q]
  show (if i < e.length then _ else _) = _
  rw [if_pos z]
@[simp] theorem unb_ret {v : Option Nat} : unb v (.ret d h) = .ret d h := rfl
@[simp] theorem unb_nxt {v : Nat} : unb (some v) (.nxt e h) = .nxt (e.set v none) h := rfl
theorem unb_cg {v : Option Nat} {o o' : Out} (q : o = o') : unb v o = unb v o' := by rw [q]
/-! ### lists, tuples -/
theorem ixF_tup (q : atI ds k = some d) : ixF (.tup ds) (.int k) h = .ok d h := by
  show (match atI ds k with | some d => Res.ok d h | none => .stuck) = _
  rw [q]
theorem ixF_frl (q : atI ds k = some d) : ixF (.frl ds) (.int k) h = .ok d h := by
  show (match atI ds k with | some d => Res.ok d h | none => .stuck) = _
  rw [q]
theorem ixF_ref (z : h.cs[n]? = some (.lst ds)) (q : atI ds k = some d) : ixF (.ref n) (.int k) h = .ok d h := by
  have e : itemsS h (.ref n) = some ds := by show (match h.cs[n]? with | some (.lst ds) => some ds | _ => none) = _; rw [z]
  have e2 : ixB (.ref n) (.int k) h = (match itemsS h (.ref n) with | some ds => atI ds k | none => none) := rfl
  unfold ixF
  rw [e2, e]
  show (match atI ds k with | some d => Res.ok d h | none => _) = _
  rw [q]
@[simp] theorem lenF_tup : lenF (.tup ds) h = .ok (.int ds.length) h := rfl
@[simp] theorem lenF_frl : lenF (.frl ds) h = .ok (.int ds.length) h := rfl
theorem lenF_ref (z : h.cs[n]? = some (.lst ds)) : lenF (.ref n) h = .ok (.int ds.length) h := by
  have e : itemsS h (.ref n) = some ds := by show (match h.cs[n]? with | some (.lst ds) => some ds | _ => none) = _; rw [z]
  show (match itemsS h (.ref n) with | some ds => Res.ok (D.int ds.length) h | none => .stuck) = _
  rw [e]
@[simp] theorem lenF_str (q : s.length ≤ 16777216) : lenF (.str s) h = .ok (.int s.length) h := by
  show (if s.length ≤ 16777216 then _ else _) = _
  rw [if_pos q]
theorem tupleF_ref (z : h.cs[n]? = some (.lst ds)) : tupleF (.ref n) h = .ok (.tup ds) h := by
  have e : itemsS h (.ref n) = some ds := by show (match h.cs[n]? with | some (.lst ds) => some ds | _ => none) = _; rw [z]
  unfold tupleF
  rw [e]
theorem listF_ref (z : h.cs[n]? = some (.lst ds)) : listF (.ref n) h = newL ds h := by
  have e : itemsS h (.ref n) = some ds := by show (match h.cs[n]? with | some (.lst ds) => some ds | _ => none) = _; rw [z]
  show (match itemsS h (.ref n) with | some ds => newL ds h | none => .stuck) = _
  rw [e]
@[simp] theorem tupleF_tup : tupleF (.tup ds) h = .ok (.tup ds) h := rfl
theorem listF_tup : listF (.tup ds) h = newL ds h := rfl
theorem listF_frl : listF (.frl ds) h = newL ds h := rfl
@[simp] theorem lstF_ap (q : ds.length ≤ 16777216) : lstF ds h = .ok (.ref h.cs.length) (h.push (.lst ds)) := by
  unfold lstF
  rw [if_pos q]
theorem newL_ap : newL ds h = .ok (.ref h.cs.length) (h.push (.lst ds)) := rfl
theorem setO_ref (z : h.cs[n]? = some (.lst ds)) (q : ixN ds.length k = some j) : setO (.ref n) (.int k) d e h = .nxt e (h.put n (.lst (ds.set j d))) := by
  have r : refLst h (.ref n) = some (n, ds) := by show (match h.cs[n]? with | some (.lst ds) => some (n, ds) | _ => none) = _; rw [z]
  unfold setO setIx
  rw [r]
  simp only [q]
theorem appF_ref (z : h.cs[n]? = some (.lst ds)) (q : ds.length < 16777216) : appF (.ref n) [d] h = .ok .non (h.put n (.lst (ds ++ [d]))) := by
  have r : refLst h (.ref n) = some (n, ds) := by show (match h.cs[n]? with | some (.lst ds) => some (n, ds) | _ => none) = _; rw [z]
  unfold appF
  rw [r]
  simp only [if_pos q]
theorem atI_nat {xs : List D} {m : Nat} : atI xs ((m : Nat) : Int) = xs[m]? := by
  unfold atI ixN
  rw [if_pos (Int.natCast_nonneg m)]
  by_cases q : (m : Int) < (xs.length : Int)
  · rw [if_pos q]
    show xs[((m : Nat) : Int).toNat]? = _
    simp
  · rw [if_neg q, List.getElem?_eq_none (by omega)]; rfl
theorem ixN_nat {n m : Nat} (q : m < n) : ixN n ((m : Nat) : Int) = some m := by
  unfold ixN
  rw [if_pos (Int.natCast_nonneg m), if_pos (by omega)]
  simp
/-! ### what is looked up, as functions -/
def vget (o : Option (Option D)) (h : PH) : Res D := match o with
  | some (some d) => .ok d h
  | _ => .stuck
@[simp] theorem vE_ap : vE i e h = vget e[i]? h := by
  unfold vE vget
  cases e[i]? with
  | none => rfl
  | some o => cases o <;> rfl
@[simp] theorem vget_some : vget (some (some d)) h = .ok d h := rfl
def lstO (o : Option Cell) : Option (List D) := match o with
  | some (.lst ds) => some ds
  | _ => none
@[simp] theorem lstO_some : lstO (some (.lst ds)) = some ds := rfl
def okO (o : Option D) (h : PH) : Res D := match o with
  | some d => .ok d h
  | none => .stuck
@[simp] theorem okO_some : okO (some d) h = .ok d h := rfl
def withL {α : Type} (o : Option (List D)) (f : List D → Res α) : Res α := match o with
  | some ds => f ds
  | none => .stuck
@[simp] theorem withL_some {f : List D → Res α} : withL (some ds) f = f ds := rfl
theorem withL_cg {o o' : Option (List D)} {f : List D → Res α} (q : o = o') : withL o f = withL o' f := by rw [q]
def PH.at (h : PH) (n : Nat) : Option Cell := h.cs[n]?
theorem PH.at_eq : h.at n = h.cs[n]? := rfl
@[simp] theorem at_mk {cs : List Cell} {l : Nat} : (PH.mk cs l).at n = cs[n]? := rfl
theorem itemsS_ref : itemsS h (.ref n) = lstO (h.at n) := by
  show (match h.cs[n]? with | some (.lst ds) => some ds | _ => none) = _
  rw [PH.at_eq]
  unfold lstO
  cases h.cs[n]? with
  | none => rfl
  | some c => cases c <;> rfl
theorem itemsL_ref : itemsL h (.ref n) = lstO (h.at n) := itemsS_ref (h := h)
@[simp] theorem ixF_tupO : ixF (.tup ds) (.int k) h = okO (atI ds k) h := by
  show (match atI ds k with | some d => Res.ok d h | none => .stuck) = _
  cases atI ds k <;> rfl
@[simp] theorem ixF_frlO : ixF (.frl ds) (.int k) h = okO (atI ds k) h := by
  show (match atI ds k with | some d => Res.ok d h | none => .stuck) = _
  cases atI ds k <;> rfl
/-- a cell's item -/
def cellIx (o : Option Cell) (k : D) (h : PH) : Res D := match o with
  | some (.lst ds) => (match k with
    | .int i => okO (atI ds i) h
    | _ => .stuck)
  | some (.dict kvs) => (match keyD k with
    | some k => okO (dGetL kvs k) h
    | none => .stuck)
  | _ => .stuck
@[simp] theorem cellIx_lst : cellIx (some (.lst ds)) (.int k) h = okO (atI ds k) h := rfl
@[simp] theorem cellIx_dctI {kvs : List (L2.Key × D)} : cellIx (some (.dict kvs)) (.int k) h = okO (dGetL kvs (.inl k)) h := rfl
@[simp] theorem cellIx_dctS {kvs : List (L2.Key × D)} : cellIx (some (.dict kvs)) (.str s) h = okO (dGetL kvs (.inr s)) h := rfl
@[simp] theorem ixF_refO : ixF (.ref n) (.int k) h = cellIx (h.at n) (.int k) h := by
  rw [PH.at_eq]
  have e2 : ixB (.ref n) (.int k) h = (match itemsS h (.ref n) with | some ds => atI ds k | none => none) := rfl
  have e3 : ixD (.ref n) (.int k) h = (match h.cs[n]? with | some (.dict kvs) => dGetL kvs (.inl k) | _ => none) := rfl
  unfold ixF
  rw [e2, e3, itemsS_ref, PH.at_eq]
  cases z : h.cs[n]? with
  | none => rfl
  | some c =>
    cases c with
    | lst ds =>
      show (match atI ds k with | some d => Res.ok d h | none => (match (none : Option D) with | some d => .ok d h | none => .stuck)) = okO (atI ds k) h
      cases atI ds k <;> rfl
    | dict kvs =>
      show (match dGetL kvs (.inl k) with | some d => Res.ok d h | none => .stuck) = okO _ h
      cases dGetL kvs (.inl k) <;> rfl
    | inst _ _ => rfl
    | dN _ => rfl
@[simp] theorem ixF_refS : ixF (.ref n) (.str s) h = cellIx (h.at n) (.str s) h := by
  rw [PH.at_eq]
  have e2 : ixB (.ref n) (.str s) h = none := rfl
  have e3 : ixD (.ref n) (.str s) h = (match h.cs[n]? with | some (.dict kvs) => dGetL kvs (.inr s) | _ => none) := rfl
  unfold ixF
  rw [e2, e3]
  cases z : h.cs[n]? with
  | none => rfl
  | some c =>
    cases c with
    | lst ds => rfl
    | dict kvs =>
      show (match dGetL kvs (.inr s) with | some d => Res.ok d h | none => .stuck) = okO _ h
      cases dGetL kvs (.inr s) <;> rfl
    | inst _ _ => rfl
    | dN _ => rfl
@[simp] theorem lenF_refO : lenF (.ref n) h = withL (lstO (h.at n)) fun ds => .ok (.int ds.length) h := by
  show (match itemsS h (.ref n) with | some ds => Res.ok (D.int ds.length) h | none => .stuck) = _
  rw [itemsS_ref]
  cases lstO (h.at n) <;> rfl
@[simp] theorem tupleF_refO : tupleF (.ref n) h = withL (lstO (h.at n)) fun ds => .ok (.tup ds) h := by
  unfold tupleF
  rw [itemsS_ref]
  cases lstO (h.at n) <;> rfl
@[simp] theorem listF_refO : listF (.ref n) h = withL (lstO (h.at n)) fun ds => .ok (.ref h.cs.length) (h.push (.lst ds)) := by
  show (match itemsS h (.ref n) with | some ds => newL ds h | none => .stuck) = _
  rw [itemsS_ref]
  cases lstO (h.at n) <;> rfl
@[simp] theorem listF_tupO : listF (.tup ds) h = .ok (.ref h.cs.length) (h.push (.lst ds)) := rfl
@[simp] theorem listF_frlO : listF (.frl ds) h = .ok (.ref h.cs.length) (h.push (.lst ds)) := rfl
def setW (o : Option (List D)) (f : List D → Out) : Out := match o with
  | some ds => f ds
  | none => .stuck
@[simp] theorem setW_some {f : List D → Out} : setW (some ds) f = f ds := rfl
theorem setW_cg {o o' : Option (List D)} {f : List D → Out} (q : o = o') : setW o f = setW o' f := by rw [q]
def setJ (o : Option Nat) (f : Nat → Out) : Out := match o with
  | some j => f j
  | none => .stuck
@[simp] theorem setJ_some {f : Nat → Out} : setJ (some j) f = f j := rfl
theorem setJ_cg {o o' : Option Nat} {f : Nat → Out} (q : o = o') : setJ o f = setJ o' f := by rw [q]
def cellSet (o : Option Cell) (n : Nat) (k d : D) (e : Env) (h : PH) : Out := match o with
  | some (.lst ds) => (match k with
    | .int i => setJ (ixN ds.length i) fun j => .nxt e (h.put n (.lst (ds.set j d)))
    | _ => .stuck)
  | some (.dict kvs) => (match keyD k with
    | some k => if kvs.length < 16777216 then .nxt e (h.put n (.dict (dPutL kvs k d))) else .stuck
    | none => .stuck)
  | _ => .stuck
@[simp] theorem cellSet_lst : cellSet (some (.lst ds)) n (.int k) d e h = setJ (ixN ds.length k) fun j => .nxt e (h.put n (.lst (ds.set j d))) := rfl
@[simp] theorem cellSet_dctI {kvs : List (L2.Key × D)} (q : kvs.length < 16777216) : cellSet (some (.dict kvs)) n (.int k) d e h = .nxt e (h.put n (.dict (dPutL kvs (.inl k) d))) := if_pos q
@[simp] theorem cellSet_dctS {kvs : List (L2.Key × D)} (q : kvs.length < 16777216) : cellSet (some (.dict kvs)) n (.str s) d e h = .nxt e (h.put n (.dict (dPutL kvs (.inr s) d))) := if_pos q
theorem refLst_at : refLst h (.ref n) = (match h.at n with | some (.lst ds) => some (n, ds) | _ => none) := rfl
theorem setDx_at {i : D} (q : keyT i = none) : setDx (.ref n) i d h = (match h.at n with | some (.dict kvs) => (match keyD i with | some k => if kvs.length < 16777216 then some (h.put n (.dict (dPutL kvs k d))) else none | none => none) | _ => none) := by
  unfold setDx
  rw [q]; rfl
@[simp] theorem setO_refO : setO (.ref n) (.int k) d e h = cellSet (h.at n) n (.int k) d e h := by
  unfold setO setIx
  rw [refLst_at]
  cases z : h.at n with
  | none => simp only []; rw [setDx_at rfl, z]; rfl
  | some c =>
    cases c with
    | lst ds =>
      show (match (match ixN ds.length k with | some j => some (h.put n (.lst (ds.set j d))) | none => none) with | some h4 => Out.nxt e h4 | none => .stuck) = setJ (ixN ds.length k) _
      cases ixN ds.length k <;> rfl
    | dict kvs =>
      simp only []
      rw [setDx_at rfl, z]
      show (match (if kvs.length < 16777216 then some (h.put n (.dict (dPutL kvs (.inl k) d))) else none) with | some h4 => Out.nxt e h4 | none => .stuck) = (if kvs.length < 16777216 then _ else _)
      by_cases c : kvs.length < 16777216
      · rw [if_pos c, if_pos c]
      · rw [if_neg c, if_neg c]
    | inst _ _ => simp only []; rw [setDx_at rfl, z]; rfl
    | dN _ => simp only []; rw [setDx_at rfl, z]; rfl
@[simp] theorem setO_refS : setO (.ref n) (.str s) d e h = (match h.at n with | some (.lst _) => Out.stuck | _ => cellSet (h.at n) n (.str s) d e h) := by
  unfold setO setIx
  rw [refLst_at]
  cases z : h.at n with
  | none => simp only []; rw [setDx_at rfl, z]; rfl
  | some c =>
    cases c with
    | lst ds => rfl
    | dict kvs =>
      simp only []
      rw [setDx_at rfl, z]
      show (match (if kvs.length < 16777216 then some (h.put n (.dict (dPutL kvs (.inr s) d))) else none) with | some h4 => Out.nxt e h4 | none => .stuck) = (if kvs.length < 16777216 then _ else _)
      by_cases c : kvs.length < 16777216
      · rw [if_pos c, if_pos c]
      · rw [if_neg c, if_neg c]
    | inst _ _ => simp only []; rw [setDx_at rfl, z]; rfl
    | dN _ => simp only []; rw [setDx_at rfl, z]; rfl
@[simp] theorem appF_refO : appF (.ref n) [d] h = withL (lstO (h.at n)) fun ds => if ds.length < 16777216 then .ok .non (h.put n (.lst (ds ++ [d]))) else .stuck := by
  rw [PH.at_eq]
  cases z : h.cs[n]? with
  | none =>
    have r : refLst h (.ref n) = none := by show (match h.cs[n]? with | some (.lst ds) => some (n, ds) | _ => none) = _; rw [z]
    unfold appF
    rw [r]; rfl
  | some c =>
    cases c with
    | lst ds =>
      have r : refLst h (.ref n) = some (n, ds) := by show (match h.cs[n]? with | some (.lst ds) => some (n, ds) | _ => none) = _; rw [z]
      unfold appF
      rw [r]; rfl
    | _ =>
      have r : refLst h (.ref n) = none := by show (match h.cs[n]? with | some (.lst ds) => some (n, ds) | _ => none) = _; rw [z]
      unfold appF
      rw [r]; rfl
@[simp] theorem at0 {xs : List D} : atI (d :: xs) 0 = some d := by rw [show (0 : Int) = ((0 : Nat) : Int) from rfl, atI_nat]; rfl
@[simp] theorem at1 {xs : List D} {d0 : D} : atI (d0 :: d :: xs) 1 = some d := by rw [show (1 : Int) = ((1 : Nat) : Int) from rfl, atI_nat]; rfl
@[simp] theorem at2 {xs : List D} {d0 d1 : D} : atI (d0 :: d1 :: d :: xs) 2 = some d := by rw [show (2 : Int) = ((2 : Nat) : Int) from rfl, atI_nat]; rfl
@[simp] theorem at3 {xs : List D} {d0 d1 d2 : D} : atI (d0 :: d1 :: d2 :: d :: xs) 3 = some d := by rw [show (3 : Int) = ((3 : Nat) : Int) from rfl, atI_nat]; rfl
@[simp] theorem at4 {xs : List D} {d0 d1 d2 d3 : D} : atI (d0 :: d1 :: d2 :: d3 :: d :: xs) 4 = some d := by rw [show (4 : Int) = ((4 : Nat) : Int) from rfl, atI_nat]; rfl
@[simp] theorem at5 {xs : List D} {d0 d1 d2 d3 d4 : D} : atI (d0 :: d1 :: d2 :: d3 :: d4 :: d :: xs) 5 = some d := by rw [show (5 : Int) = ((5 : Nat) : Int) from rfl, atI_nat]; rfl
@[simp] theorem at6 {xs : List D} {d0 d1 d2 d3 d4 d5 : D} : atI (d0 :: d1 :: d2 :: d3 :: d4 :: d5 :: d :: xs) 6 = some d := by rw [show (6 : Int) = ((6 : Nat) : Int) from rfl, atI_nat]; rfl
theorem at_int {xs : List D} (q : 0 ≤ k) : atI xs k = xs[k.toNat]? := by
  obtain ⟨m, rfl⟩ := Int.eq_ofNat_of_zero_le q
  rw [atI_nat]; rfl
@[simp] theorem ixN0 : ixN (n + 1) 0 = some 0 := ixN_nat (m := 0) (by omega)
@[simp] theorem ixN1 : ixN (n + 2) 1 = some 1 := ixN_nat (m := 1) (by omega)
@[simp] theorem ixN2 : ixN (n + 3) 2 = some 2 := ixN_nat (m := 2) (by omega)
@[simp] theorem ixN3 : ixN (n + 4) 3 = some 3 := ixN_nat (m := 3) (by omega)
@[simp] theorem ixN4 : ixN (n + 5) 4 = some 4 := ixN_nat (m := 4) (by omega)
theorem ixN_int (q : 0 ≤ k) (z : k < n) : ixN n k = some k.toNat := by
  obtain ⟨m, rfl⟩ := Int.eq_ofNat_of_zero_le q
  exact ixN_nat (Int.ofNat_lt.mp z)
@[simp] theorem put_le {c : Cell} (q : c.mr ≤ n) : h.put n c = ⟨h.cs.set n c, h.lim⟩ := by unfold PH.put; rw [if_pos q]
@[simp] theorem push_ap {c : Cell} : h.push c = ⟨h.cs ++ [c], h.lim⟩ := rfl
/-! ### loops -/
def Res.lp (r : Res Src) (t : Tgt) (b : SM) (e : Env) : Out := r.bindS e fun s h1 => forL t b s h1.cs.length (s.fuel h1) 0 e h1
@[simp] theorem forS_fr {m : IM} {t : Tgt} : forS m t b e h = (m e h).lp t b e := rfl
theorem lp_ok {t : Tgt} : (Res.ok (.vals ds) h).lp t b e = forL t b (.vals ds) h.cs.length (ds.length + 1) 0 e h := rfl
def Res.sl (r : Res D) (lo hi : OM) (e : Env) : Res D := r.bind fun d h1 => (lo e h1).bind fun l h2 => (hi e h2).bind fun u h3 => slF d l u h3
def Res.sl2 (r : Res (Option Int)) (d : D) (hi : OM) (e : Env) : Res D := r.bind fun l h2 => (hi e h2).bind fun u h3 => slF d l u h3
def Res.sl3 (r : Res (Option Int)) (d : D) (l : Option Int) : Res D := r.bind fun u h3 => slF d l u h3
@[simp] theorem slE_fr {m : EM} {lo hi : OM} : slE m lo hi e h = (m e h).sl lo hi e := rfl
@[simp] theorem sl_ok {lo hi : OM} : (Res.ok d h).sl lo hi e = (lo e h).sl2 d hi e := rfl
@[simp] theorem sl2_ok {v : Option Int} {hi : OM} : (Res.ok v h).sl2 d hi e = (hi e h).sl3 d v := rfl
@[simp] theorem sl3_ok {v u : Option Int} : (Res.ok u h).sl3 d v = slF d v u h := rfl
@[simp] theorem noO_ap : noO e h = .ok none h := rfl
def Res.so (r : Res D) : Res (Option Int) := r.bind fun d h1 => match d with
  | .int i => .ok (some i) h1
  | _ => .stuck
@[simp] theorem someO_fr {m : EM} : someO m e h = (m e h).so := rfl
@[simp] theorem so_ok : (Res.ok (.int k) h).so = .ok (some k) h := rfl
theorem forS_ap {m : IM} {t : Tgt} : forS m t b e h = (m e h).bindS e fun s h1 => forL t b s h1.cs.length (s.fuel h1) 0 e h1 := rfl
@[simp] theorem rngE_ap {f : List D → PH → Res Src} {m : AM} : rngE f m e h = (m e h).bind f := rfl
@[simp] theorem srcE_ap {m : EM} : srcE m e h = (m e h).bind srcF := rfl
@[simp] theorem revE_ap {m : EM} : revE m e h = (m e h).bind revSrc := rfl
@[simp] theorem srcF_tup : srcF (.tup ds) h = .ok (.vals ds) h := rfl
@[simp] theorem srcF_frl : srcF (.frl ds) h = .ok (.vals ds) h := rfl
@[simp] theorem srcF_str : srcF (.str s) h = .ok (.vals (signs s)) h := rfl
@[simp] theorem revSrc_tup : revSrc (.tup ds) h = .ok (.vals ds.reverse) h := rfl
@[simp] theorem range1 (q : in62 k = true) : rangeF1 [.int k] h = .ok (.vals (rangeD 0 1 k.toNat)) h := by
  unfold rangeF1
  simp only [if_pos q]
@[simp] theorem range2 (q : in62 k = true ∧ in62 l = true) : rangeF2 [.int k, .int l] h = .ok (.vals (rangeD k 1 (l - k).toNat)) h := by
  unfold rangeF2
  simp only [if_pos q]
/-- a loop over given values: each turn keeps I, ends the loop well, or goes out by Q -/
def Turn (o : Out) (I : Env → PH → Prop) (Q : Out → Prop) : Prop := match o with
  | .nxt e h => I e h
  | .cnt e h => I e h
  | .brk e h => Q (.nxt e h)
  | .ret d h => Q (.ret d h)
  | .exc c e h => Q (.exc c e h)
  | .stuck => False
def Out.next (o : Out) (t : Tgt) (b : SM) (s : Src) (l f i : Nat) : Out := match o with
  | .nxt e2 h2 => forL t b s l f i e2 (h2.gc l e2)
  | .cnt e2 h2 => forL t b s l f i e2 (h2.gc l e2)
  | .brk e2 h2 => .nxt e2 h2
  | .ret d h2 => .ret d h2
  | .exc c e2 h2 => .exc c e2 h2
  | .stuck => .stuck
theorem forL_end {t : Tgt} {sr : Src} {l f : Nat} (q : sr.item i h = some none) : forL t b sr l (f + 1) i e h = .nxt e h := by
  rw [forL, q]
theorem forL_go {t : Tgt} {sr : Src} {l f : Nat} (q : sr.item i h = some (some d)) (z : tgt t d e h = some e1) : forL t b sr l (f + 1) i e h = (b e1 h).next t b sr l f (i + 1) := by
  rw [forL, q]
  simp only [z]
  unfold Out.next
  cases b e1 h <;> rfl
theorem next_nxt {t : Tgt} {sr : Src} {l f : Nat} : (Out.nxt e h).next t b sr l f i = forL t b sr l f i e (h.gc l e) := rfl
theorem next_cnt {t : Tgt} {sr : Src} {l f : Nat} : (Out.cnt e h).next t b sr l f i = forL t b sr l f i e (h.gc l e) := rfl
theorem next_brk {t : Tgt} {sr : Src} {l f : Nat} : (Out.brk e h).next t b sr l f i = .nxt e h := rfl
theorem next_ret {t : Tgt} {sr : Src} {l f : Nat} : (Out.ret d h).next t b sr l f i = .ret d h := rfl
theorem next_exc {t : Tgt} {sr : Src} {l f : Nat} : (Out.exc c e h).next t b sr l f i = .exc c e h := rfl
theorem forL_by {t : Tgt} {sr : Src} {n l : Nat} {Q : Out → Prop} (I : Nat → Env → PH → Prop)
    (step : ∀ i e h, i < n → I i e h → ∃ d e1, sr.item i h = some (some d) ∧ tgt t d e h = some e1 ∧ Turn (b e1 h) (fun e2 h2 => I (i + 1) e2 (h2.gc l e2)) Q)
    (fin : ∀ e h, I n e h → sr.item n h = some none ∧ Q (.nxt e h)) : ∀ (f i : Nat) (e : Env) (h : PH), i + f = n + 1 → i ≤ n → I i e h → Q (forL t b sr l f i e h) := by
  intro f
  induction f with
  | zero => intro i e h q le z; omega
  | succ f ih =>
    intro i e h q le z
    by_cases hi : i < n
    · obtain ⟨d, e1, h0, h1, h2⟩ := step i e h hi z
      rw [forL_go h0 h1]
      unfold Turn at h2
      unfold Out.next
      cases q' : b e1 h with
      | nxt e2 h3 => rw [q'] at h2; exact ih _ _ _ (by omega) (by omega) h2
      | cnt e2 h3 => rw [q'] at h2; exact ih _ _ _ (by omega) (by omega) h2
      | brk e2 h3 => rw [q'] at h2; exact h2
      | ret d h3 => rw [q'] at h2; exact h2
      | exc c e2 h3 => rw [q'] at h2; exact h2
      | stuck => rw [q'] at h2; exact h2.elim
    · have ei : i = n := by omega
      subst ei
      obtain ⟨h1, h2⟩ := fin e h z
      rw [forL_end h1]
      exact h2
theorem item_vals {xs : List D} : (Src.vals xs).item i h = some xs[i]? := rfl
theorem item_cell {xs : List D} (q : h.cs[n]? = some (.lst xs)) : (Src.cell n).item i h = some xs[i]? := by
  show (match h.cs[n]? with | some (.lst ds) => some ds[i]? | _ => none) = _
  rw [q]
/-- over given values -/
theorem for_vals {t : Tgt} {xs : List D} {l : Nat} {Q : Out → Prop} (I : Nat → Env → PH → Prop)
    (step : ∀ i e h d, i < xs.length → xs[i]? = some d → I i e h → ∃ e1, tgt t d e h = some e1 ∧ Turn (b e1 h) (fun e2 h2 => I (i + 1) e2 (h2.gc l e2)) Q)
    (fin : ∀ e h, I xs.length e h → Q (.nxt e h)) (z : I 0 e h) : Q (forL t b (.vals xs) l (xs.length + 1) 0 e h) :=
  forL_by (n := xs.length) I (fun i e h hi z => by
    have e0 : xs[i]? = some xs[i] := List.getElem?_eq_getElem hi
    obtain ⟨e1, h1, h2⟩ := step i e h xs[i] hi e0 z
    exact ⟨_, e1, by rw [item_vals, e0], h1, h2⟩) (fun e h z => ⟨by rw [item_vals, List.getElem?_eq_none (by omega)], fin e h z⟩) _ _ _ _ (by omega) (by omega) z
theorem rangeD_len {i c : Int} {n : Nat} : (rangeD i c n).length = n := by unfold rangeD; simp
theorem rangeD_get {i c : Int} {m n : Nat} (q : m < n) : (rangeD i c n)[m]? = some (.int (i + (m : Int) * c)) := by
  unfold rangeD
  rw [List.getElem?_map, List.getElem?_range q]; rfl
/-- .. over range(n) -/
theorem for_range {t : Tgt} {m l : Nat} {j : Int} {Q : Out → Prop} (I : Nat → Env → PH → Prop)
    (step : ∀ i e h, i < m → I i e h → ∃ e1, tgt t (.int (j + (i : Int) * 1)) e h = some e1 ∧ Turn (b e1 h) (fun e2 h2 => I (i + 1) e2 (h2.gc l e2)) Q)
    (fin : ∀ e h, I m e h → Q (.nxt e h)) (z : I 0 e h) : Q (forL t b (.vals (rangeD j 1 m)) l ((rangeD j 1 m).length + 1) 0 e h) :=
  for_vals I (fun i e h d hi q z => by
    rw [rangeD_len] at hi
    rw [rangeD_get hi] at q
    cases q
    exact step i e h hi z) (fun e h z => by rw [rangeD_len] at z; exact fin e h z) z
/-- a fold: each turn ends well -/
theorem gc_max {l : Nat} {e : Env} (q : h.cs.length ≤ l) : h.gc l e = h := by
  unfold PH.gc
  exact cut_ge (by omega)
end
end Dy

/-! The draws of all laws: _law_begin, _law_take. -/
namespace Dy
open PySem PySem.Spec PyProof.Rows L2
def s_take : SM := seqS (ifS (andT (tbT (b2E eqF (b2E ixF (vE 0) (cE (.int 2))) (cE (.int 0)))) (tbT (b2E ltF (b2E ixF (vE 0) (cE (.int 1))) (nA (f1 lenF) (consA (b2E ixF (vE 0) (cE (.int 0))) (nilA)))))) (seqS (sixS (nA (f1 absF) (consA (nA (f1 intF) (consA (b2E ixF (b2E ixF (vE 0) (cE (.int 0))) (b2E ixF (vE 0) (cE (.int 1)))) (nilA))) (nilA))) (vE 0) (cE (.int 2))) (seqS (sixS (b2E addF (b2E ixF (vE 0) (cE (.int 1))) (cE (.int 1))) (vE 0) (cE (.int 1))) (seqS (ifS (tbT (b2E ltF (b2E ixF (vE 0) (cE (.int 2))) (b2E powF (cE (.int 10)) (cE (.int 18))))) (seqS (asgS (nA (f1 intF) (consA (b2E ixF (vE 0) (cE (.int 2))) (nilA))) (.one 2)) (seqS (sixS (cE (.int 0)) (vE 0) (cE (.int 2))) (seqS (retS (b2E modF (vE 2) (vE 1))) (nextS)))) (nextS)) (nextS)))) (nextS)) (seqS (ifS (tbT (b2E gtF (b2E ixF (vE 0) (cE (.int 2))) (cE (.int 0)))) (seqS (asgS (b2E modF (nA (f1 intF) (consA (b2E ixF (vE 0) (cE (.int 2))) (nilA))) (vE 1)) (.one 3)) (seqS (sixS (b2E fdivF (nA (f1 intF) (consA (b2E ixF (vE 0) (cE (.int 2))) (nilA))) (vE 1)) (vE 0) (cE (.int 2))) (seqS (retS (vE 3)) (nextS)))) (nextS)) (seqS (sixS (b2E modF (nA (f1 intF) (consA (b2E addF (b2E mulF (b2E ixF (vE 0) (cE (.int 3))) (cE (.int 48271))) (cE (.int 11))) (nilA))) (cE (.int 2147483647))) (vE 0) (cE (.int 3))) (seqS (retS (b2E modF (nA (f1 intF) (consA (b2E fdivF (b2E ixF (vE 0) (cE (.int 3))) (cE (.int 3))) (nilA))) (vE 1))) (nextS))))
def b_begin : SM := seqS (asgS (b2E modF (b2E addF (b2E addF (b2E mulF (vE 1) (cE (.int 69621))) (b2E modF (nA (f1 intF) (consA (vE 2) (nilA))) (cE (.int 2147483629)))) (cE (.int 7))) (cE (.int 2147483647))) (.one 1)) (nextS)
def s_begin : SM := seqS (asgS (cE (.int 1)) (.one 1)) (seqS (forS (srcE (vE 0)) (.one 2) b_begin) (seqS (retS (nA lstF (consA (nA (f1 listF) (consA (vE 0) (nilA))) (consA (cE (.int 0)) (consA (cE (.int 0)) (consA (vE 1) (nilA))))))) (nextS)))
def f_take : Fn := runF s_take 2 4
def f_begin : Fn := runF s_begin 1 3
/-- the draws' state: the script, the place, the number that digits are taken of, the seed -/
structure Dst where
  sc : List Int
  a : Int
  b : Int
  s : Int
  ha : 0 ≤ a
  hb : 0 ≤ b
  s0 : 0 ≤ s
  s1 : s < 2147483647
def dh (q : Dst) (r : List Cell) : PH := ⟨.lst (q.sc.map .int) :: .lst [.ref 0, .int q.a, .int q.b, .int q.s] :: r, 0⟩
@[simp] theorem dh_len {q : Dst} {r : List Cell} : (dh q r).cs.length = r.length + 2 := rfl
@[simp] theorem dh_lim {q : Dst} {r : List Cell} : (dh q r).lim = 0 := rfl
@[simp] theorem dh_cs {q : Dst} {r : List Cell} {n : Nat} : (dh q r).at (n + 2) = r[n]? := rfl
@[simp] theorem decT {p : Prop} [Decidable p] (h : p) : decide p = true := decide_eq_true h
theorem take_ex (q : Dst) (m : Int) (hm : 0 < m) (hz : sm m) : ∃ (r : Int) (q' : Dst), 0 ≤ r ∧ r < m ∧ ∀ rest, f_take [.ref 1, .int m] (dh q rest) = .ok (.int r) (dh q' rest) := by
  obtain ⟨sc, a, b, s, ha, hb, s0, s1⟩ := q
  by_cases c1 : b = 0 ∧ a < sc.length
  · obtain ⟨rfl, c1⟩ := c1
    obtain ⟨i, rfl⟩ := Int.eq_ofNat_of_zero_le ha
    have hi : i < sc.length := by omega
    have e0 : (sc.map D.int)[i]? = some (.int sc[i]) := by rw [List.getElem?_map, List.getElem?_eq_getElem hi]; rfl
    obtain ⟨n, hn, n0⟩ : ∃ n : Int, (if sc[i] < 0 then -sc[i] else sc[i]) = n ∧ 0 ≤ n := ⟨_, rfl, by split <;> omega⟩
    have i1 : (0 : Int) ≤ i + 1 := by omega
    by_cases c2 : n < 1000000000000000000
    · refine ⟨n % m, ⟨sc, i + 1, 0, s, i1, by omega, s0, s1⟩, Int.emod_nonneg _ (by omega), Int.emod_lt_of_pos _ hm, fun rest => ?_⟩
      unfold f_take s_take dh
      simp [hm, hz, hi, e0, atI_nat, Cell.mr, mrL, D.mr, hn, c2, PH.cut]
    · have n1 : 0 < n := by omega
      refine ⟨n % m, ⟨sc, i + 1, n / m, s, i1, Int.ediv_nonneg n0 (by omega), s0, s1⟩, Int.emod_nonneg _ (by omega), Int.emod_lt_of_pos _ hm, fun rest => ?_⟩
      unfold f_take s_take dh
      simp [hm, hz, hi, e0, atI_nat, Cell.mr, mrL, D.mr, hn, c2, n1, PH.cut]
  · by_cases c2 : 0 < b
    · refine ⟨b % m, ⟨sc, a, b / m, s, ha, Int.ediv_nonneg hb (by omega), s0, s1⟩, Int.emod_nonneg _ (by omega), Int.emod_lt_of_pos _ hm, fun rest => ?_⟩
      have c3 : ¬ b = 0 := by omega
      unfold f_take s_take dh
      simp [hm, hz, Cell.mr, mrL, D.mr, c2, c3, PH.cut]
    · have c3 : b = 0 := by omega
      subst c3
      have c4 : ¬ a < sc.length := fun z => c1 ⟨rfl, z⟩
      have z1 : sm s := sm_lt (by omega) (by omega)
      refine ⟨(s * 48271 + 11) % 2147483647 / 3 % m, ⟨sc, a, 0, (s * 48271 + 11) % 2147483647, ha, by omega, Int.emod_nonneg _ (by omega), Int.emod_lt_of_pos _ (by omega)⟩, Int.emod_nonneg _ (by omega), Int.emod_lt_of_pos _ hm, fun rest => ?_⟩
      unfold f_take s_take dh
      simp [hm, hz, Cell.mr, mrL, D.mr, c4, z1, PH.cut]
open Classical in
noncomputable def takeV (q : Dst) (m : Int) : Int := if z : 0 < m ∧ sm m then (take_ex q m z.1 z.2).choose else 0
open Classical in
noncomputable def takeQ (q : Dst) (m : Int) : Dst := if z : 0 < m ∧ sm m then (take_ex q m z.1 z.2).choose_spec.choose else q
@[simp] theorem take_ap {q : Dst} {m : Int} {rest : List Cell} (hm : 0 < m) (hz : sm m) : f_take [.ref 1, .int m] (dh q rest) = .ok (.int (takeV q m)) (dh (takeQ q m) rest) := by
  unfold takeV takeQ
  rw [dif_pos ⟨hm, hz⟩, dif_pos ⟨hm, hz⟩]
  exact (take_ex q m hm hz).choose_spec.choose_spec.2.2 rest
theorem takeV_0 {q : Dst} {m : Int} : 0 ≤ takeV q m := by
  unfold takeV
  split
  · rename_i z; exact (take_ex q m z.1 z.2).choose_spec.choose_spec.1
  · exact Int.le_refl _
theorem takeV_lt {q : Dst} {m : Int} (hm : 0 < m) (hz : sm m) : takeV q m < m := by
  unfold takeV
  rw [dif_pos ⟨hm, hz⟩]
  exact (take_ex q m hm hz).choose_spec.choose_spec.2.1
theorem begin_ex (sc : List Int) : ∃ q : Dst, f_begin [.frl (sc.map .int)] ⟨[], 0⟩ = .ok (.ref 1) (dh q []) := by
  have loop : ∀ (f i : Nat) (s : Int) (r : Option D), i + f = sc.length + 1 → 0 ≤ s → s < 2147483647 → ∃ s' r', 0 ≤ s' ∧ s' < 2147483647 ∧
      forL (.one 2) b_begin (.vals (sc.map D.int)) 0 f i [some (.frl (sc.map .int)), some (.int s), r] ⟨[], 0⟩ = .nxt [some (.frl (sc.map .int)), some (.int s'), r'] ⟨[], 0⟩ ∨ sc.length < i := by
    intro f
    induction f with
    | zero => intro i s r q h0 h1; exact ⟨0, r, .inr (by omega)⟩
    | succ f ih =>
      intro i s r q h0 h1
      by_cases hi : i < sc.length
      · have e0 : (sc.map D.int)[i]? = some (.int sc[i]) := by rw [List.getElem?_map, List.getElem?_eq_getElem hi]; rfl
        have z1 : sm s := sm_lt (by omega) (by omega)
        obtain ⟨s', r', z⟩ := ih (i + 1) ((s * 69621 + sc[i] % 2147483629 + 7) % 2147483647) (some (.int sc[i])) (by omega) (Int.emod_nonneg _ (by omega)) (Int.emod_lt_of_pos _ (by omega))
        rcases z with ⟨a1, a2, z⟩ | z
        · refine ⟨s', r', .inl ⟨a1, a2, ?_⟩⟩
          rw [forL_go (d := .int sc[i]) (by rw [item_vals, e0]) rfl]
          have : b_begin [some (D.frl (sc.map .int)), some (.int s), some (.int sc[i])] ⟨[], 0⟩ = .nxt [some (.frl (sc.map .int)), some (.int ((s * 69621 + sc[i] % 2147483629 + 7) % 2147483647)), some (.int sc[i])] ⟨[], 0⟩ := by
            unfold b_begin
            simp [z1]
          show (b_begin [some (D.frl (sc.map .int)), some (.int s), some (.int sc[i])] ⟨[], 0⟩).next _ _ _ _ _ _ = _
          rw [this, next_nxt, gc_max (Nat.zero_le _)]
          exact z
        · omega
      · have e0 : (sc.map D.int)[i]? = none := by rw [List.getElem?_eq_none]; rw [List.length_map]; omega
        refine ⟨s, r, .inl ⟨h0, h1, ?_⟩⟩
        rw [forL_end (by rw [item_vals, e0])]
  obtain ⟨s', r', z⟩ := loop (sc.length + 1) 0 1 none (by omega) (by omega) (by omega)
  rcases z with ⟨a1, a2, z⟩ | z
  · refine ⟨⟨sc, 0, 0, s', by omega, by omega, a1, a2⟩, ?_⟩
    unfold f_begin s_begin dh
    simp [z, PH.cut, D.mr, lp_ok]
  · omega
noncomputable def beginQ (sc : List Int) : Dst := (begin_ex sc).choose
@[simp] theorem begin_ap {sc : List Int} : f_begin [.frl (sc.map .int)] ⟨[], 0⟩ = .ok (.ref 1) (dh (beginQ sc) []) := (begin_ex sc).choose_spec
end Dy

/-! Loops and comprehensions over given values, as recursions on the list. -/
namespace Dy
open PySem PySem.Spec PyProof.Rows L2
section
variable {e e1 : Env} {h h1 : PH} {b : SM} {c : Str} {d : D} {ds xs : List D} {t : Tgt} {l n i : Nat}
def forV (t : Tgt) (b : SM) (l : Nat) : List D → Env → PH → Out
  | [], e, h => .nxt e h
  | d :: ds, e, h => match tgt t d e h with
    | none => .stuck
    | some e1 => (match b e1 h with
      | .nxt e2 h2 => forV t b l ds e2 (h2.gc l e2)
      | .cnt e2 h2 => forV t b l ds e2 (h2.gc l e2)
      | .brk e2 h2 => .nxt e2 h2
      | .ret d h2 => .ret d h2
      | .exc c e2 h2 => .exc c e2 h2
      | .stuck => .stuck)
def Out.nextV (o : Out) (t : Tgt) (b : SM) (l : Nat) (ds : List D) : Out := match o with
  | .nxt e2 h2 => forV t b l ds e2 (h2.gc l e2)
  | .cnt e2 h2 => forV t b l ds e2 (h2.gc l e2)
  | .brk e2 h2 => .nxt e2 h2
  | .ret d h2 => .ret d h2
  | .exc c e2 h2 => .exc c e2 h2
  | .stuck => .stuck
def tgtO (o : Option Env) (b : SM) (h : PH) : Out := match o with
  | some e1 => b e1 h
  | none => .stuck
@[simp] theorem tgtO_some : tgtO (some e) b h = b e h := rfl
@[simp] theorem forV_nil : forV t b l [] e h = .nxt e h := rfl
@[simp] theorem forV_cons : forV t b l (d :: ds) e h = (tgtO (tgt t d e h) b h).nextV t b l ds := by
  rw [forV]
  cases tgt t d e h with
  | none => rfl
  | some e1 =>
    rw [tgtO_some]
    unfold Out.nextV
    cases q : b e1 h <;> simp only [q]
@[simp] theorem nextV_nxt : (Out.nxt e h).nextV t b l ds = forV t b l ds e (h.gc l e) := rfl
@[simp] theorem nextV_cnt : (Out.cnt e h).nextV t b l ds = forV t b l ds e (h.gc l e) := rfl
@[simp] theorem nextV_brk : (Out.brk e h).nextV t b l ds = .nxt e h := rfl
@[simp] theorem nextV_ret : (Out.ret d h).nextV t b l ds = .ret d h := rfl
@[simp] theorem nextV_exc : (Out.exc c e h).nextV t b l ds = .exc c e h := rfl
theorem forL_forV : ∀ (f i : Nat) (e : Env) (h : PH), i + f = xs.length + 1 → i ≤ xs.length → forL t b (.vals xs) l f i e h = forV t b l (xs.drop i) e h := by
  intro f
  induction f with
  | zero => intro i e h q z; omega
  | succ f ih =>
    intro i e h q z
    by_cases hi : i < xs.length
    · have e0 : xs[i]? = some xs[i] := List.getElem?_eq_getElem hi
      rw [List.drop_eq_getElem_cons hi, forV_cons]
      cases q' : tgt t xs[i] e h with
      | none =>
        rw [forL, item_vals, e0]
        simp only [q']
        rfl
      | some e1 =>
        rw [forL_go (by rw [item_vals, e0]) q']
        show Out.next (b e1 h) _ _ _ _ _ _ = Out.nextV (b e1 h) _ _ _ _
        unfold Out.next Out.nextV
        cases b e1 h with
        | nxt e2 h2 => exact ih _ _ _ (by omega) (by omega)
        | cnt e2 h2 => exact ih _ _ _ (by omega) (by omega)
        | _ => rfl
    · have ei : i = xs.length := by omega
      subst ei
      rw [forL_end (by rw [item_vals, List.getElem?_eq_none (by omega)]), List.drop_eq_nil_of_le (Nat.le_refl _)]; rfl
@[simp] theorem lp_vals : (Res.ok (.vals ds) h).lp t b e = forV t b h.cs.length ds e h := by
  rw [lp_ok, forL_forV _ _ _ _ (by omega) (by omega)]; rfl
/-- over the items of a list that the turns leave as it is -/
theorem lp_cell : (Res.ok (.cell n) h).lp t b e = forL t b (.cell n) h.cs.length ((Src.cell n).fuel h) 0 e h := rfl
theorem rangeD_nil {j k : Int} : rangeD j k 0 = [] := rfl
theorem rangeD_cons {j k : Int} : rangeD j k (n + 1) = .int j :: rangeD (j + k) k n := by
  unfold rangeD
  rw [List.range_succ_eq_map, List.map_cons, List.map_map]
  congr 1
  · simp
  · apply List.map_congr_left
    intro a _
    show D.int (j + ((a + 1 : Nat) : Int) * k) = D.int (j + k + (a : Int) * k)
    congr 1
    rw [Int.natCast_add, Int.add_mul]
    simp
    omega
/-- what holds ahead of each turn -/
theorem forV_by {Q : Out → Prop} (I : List D → Env → PH → Prop)
    (step : ∀ d ds e h, I (d :: ds) e h → ∃ e1, tgt t d e h = some e1 ∧ Turn (b e1 h) (fun e2 h2 => I ds e2 (h2.gc l e2)) Q)
    (fin : ∀ e h, I [] e h → Q (.nxt e h)) : ∀ (ds : List D) (e : Env) (h : PH), I ds e h → Q (forV t b l ds e h) := by
  intro ds
  induction ds with
  | nil => intro e h z; exact fin e h z
  | cons d ds ih =>
    intro e h z
    obtain ⟨e1, h1, h2⟩ := step d ds e h z
    rw [forV_cons, h1, tgtO_some]
    unfold Turn at h2
    unfold Out.nextV
    cases q' : b e1 h with
    | nxt e2 h3 => rw [q'] at h2; exact ih _ _ h2
    | cnt e2 h3 => rw [q'] at h2; exact ih _ _ h2
    | brk e2 h3 => rw [q'] at h2; exact h2
    | ret d h3 => rw [q'] at h2; exact h2
    | exc c e2 h3 => rw [q'] at h2; exact h2
    | stuck => rw [q'] at h2; exact h2.elim
/-! ### comprehensions -/
variable {tst : TM} {elt : EM} {e0 : Env} {own : List Nat}
def compV (t : Tgt) (tst : TM) (elt : EM) (e0 : Env) : List D → PH → Res (List D)
  | [], h => .ok [] h
  | d :: ds, h => match tgt t d e0 h with
    | none => .stuck
    | some e1 => (tst e1 h).bind fun c h1 => match c with
        | true => (elt e1 h1).bind fun v h2 => (compV t tst elt e0 ds (h2.cut (max h.cs.length (max h2.lim v.mr)))).bind fun vs h3 => .ok (v :: vs) h3
        | false => compV t tst elt e0 ds (h1.cut (max h.cs.length h1.lim))
def tgtR (o : Option Env) (f : Env → Res (List D)) : Res (List D) := match o with
  | some e1 => f e1
  | none => .stuck
def Res.cp1 (r : Res Bool) (t : Tgt) (tst : TM) (elt : EM) (e0 e1 : Env) (n : Nat) (ds : List D) : Res (List D) := r.bind fun c h1 => match c with
  | true => (elt e1 h1).bind fun v h2 => (compV t tst elt e0 ds (h2.cut (max n (max h2.lim v.mr)))).bind fun vs h3 => .ok (v :: vs) h3
  | false => compV t tst elt e0 ds (h1.cut (max n h1.lim))
def Res.cp2 (r : Res D) (t : Tgt) (tst : TM) (elt : EM) (e0 : Env) (n : Nat) (ds : List D) : Res (List D) := r.bind fun v h2 => (compV t tst elt e0 ds (h2.cut (max n (max h2.lim v.mr)))).bind fun vs h3 => .ok (v :: vs) h3
def compT (o : Option Env) (t : Tgt) (tst : TM) (elt : EM) (e0 : Env) (h : PH) (ds : List D) : Res (List D) := match o with
  | none => .stuck
  | some e1 => (tst e1 h).cp1 t tst elt e0 e1 h.cs.length ds
@[simp] theorem compT_some : compT (some e1) t tst elt e0 h ds = (tst e1 h).cp1 t tst elt e0 e1 h.cs.length ds := rfl
@[simp] theorem compV_nil : compV t tst elt e0 [] h = .ok [] h := rfl
@[simp] theorem compV_cons : compV t tst elt e0 (d :: ds) h = compT (tgt t d e0 h) t tst elt e0 h ds := by
  rw [compV]; cases tgt t d e0 h <;> rfl
@[simp] theorem cp1_true : (Res.ok true h).cp1 t tst elt e0 e1 n ds = (elt e1 h).cp2 t tst elt e0 n ds := rfl
@[simp] theorem cp1_false : (Res.ok false h).cp1 t tst elt e0 e1 n ds = compV t tst elt e0 ds (h.cut (max n h.lim)) := rfl
@[simp] theorem cp2_ok : (Res.ok d h).cp2 t tst elt e0 n ds = (compV t tst elt e0 ds (h.cut (max n (max h.lim d.mr)))).c2 d := rfl
@[simp] theorem yesT_ap : yesT e h = .ok true h := rfl
theorem compL_compV : ∀ (f i : Nat) (h : PH), i + f = xs.length + 1 → i ≤ xs.length → compL t tst elt (.vals xs) e0 f i h = compV t tst elt e0 (xs.drop i) h := by
  intro f
  induction f with
  | zero => intro i h q z; omega
  | succ f ih =>
    intro i h q z
    by_cases hi : i < xs.length
    · have e9 : xs[i]? = some xs[i] := List.getElem?_eq_getElem hi
      rw [List.drop_eq_getElem_cons hi, compV, compL, item_vals, e9]
      have z1 : ∀ h, compL t tst elt (.vals xs) e0 f (i + 1) h = compV t tst elt e0 (xs.drop (i + 1)) h := fun h => ih _ h (by omega) (by omega)
      simp only [z1] <;> cases tgt t xs[i] e0 h <;> rfl
    · have ei : i = xs.length := by omega
      subst ei
      rw [compL, item_vals, List.getElem?_eq_none (by omega), List.drop_eq_nil_of_le (Nat.le_refl _)]; rfl
def Res.cm (r : Res Src) (own : List Nat) (t : Tgt) (tst : TM) (elt : EM) (e : Env) : Res D := r.bind fun s h1 => (noX (compL t tst elt s (wipeE e own) (s.fuel h1) 0 h1)).bind finL
@[simp] theorem compE_fr {m : IM} : compE m own t tst elt e h = (m e h).cm own t tst elt e := rfl
def Res.fl (r : Res (List D)) : Res D := (noX r).bind finL
@[simp] theorem cm_vals : (Res.ok (.vals ds) h).cm own t tst elt e = (compV t tst elt (wipeE e own) ds h).fl := by
  show (noX (compL t tst elt (.vals ds) (wipeE e own) (ds.length + 1) 0 h)).bind finL = _
  rw [compL_compV _ _ _ (by omega) (by omega)]; rfl
@[simp] theorem fl_ok (q : ds.length ≤ 16777216) : (Res.ok ds h).fl = .ok (.ref h.cs.length) (h.push (.lst ds)) := by
  show (if ds.length ≤ 16777216 then newL ds h else .stuck) = _
  rw [if_pos q]; rfl
/-! .. of elements that raise -/
def Res.cmX (r : Res Src) (own : List Nat) (t : Tgt) (tst : TM) (elt : EM) (e : Env) : Res D := r.bind fun s h1 => fXA (s.fuel h1) [] (compL t tst elt s (wipeE e own) (s.fuel h1) 0 h1)
@[simp] theorem compXE_fr {m : IM} : compXE m own t tst elt e h = (m e h).cmX own t tst elt e := rfl
def Res.flX (r : Res (List D)) (N : Nat) : Res D := fXA N [] r
@[simp] theorem cmX_vals : (Res.ok (.vals ds) h).cmX own t tst elt e = (compV t tst elt (wipeE e own) ds h).flX (ds.length + 1) := by
  show fXA (ds.length + 1) [] (compL t tst elt (.vals ds) (wipeE e own) (ds.length + 1) 0 h) = _
  rw [compL_compV _ _ _ (by omega) (by omega)]; rfl
@[simp] theorem flX_ok {N : Nat} (q : ds.length ≤ 16777216) : (Res.ok ds h).flX N = .ok (.ref h.cs.length) (h.push (.lst ds)) := by
  show (if ds.length ≤ 16777216 then newL ds h else .stuck) = _
  rw [if_pos q]; rfl
@[simp] theorem flX_exc {N : Nat} (q : N ≤ 16777216) : (Res.exc c h : Res (List D)).flX N = .exc c h := if_pos q
@[simp] theorem wipeE_nil : wipeE e [] = e := rfl
@[simp] theorem wipeE_cons {v : Nat} {vs : List Nat} : wipeE e (v :: vs) = (wipeE e vs).set v none := rfl
theorem compV_map {p : D → Bool} {g : D → D} : ∀ {ds : List D}, (∀ d ∈ ds, ∃ e1, tgt t d e0 h = some e1 ∧ tst e1 h = .ok (p d) h ∧ (p d = true → elt e1 h = .ok (g d) h)) → compV t tst elt e0 ds h = .ok ((ds.filter p).map g) h := by
  intro ds
  induction ds with
  | nil => intro _; rfl
  | cons d ds ih =>
    intro H
    obtain ⟨e1, h1, h2, h3⟩ := H d List.mem_cons_self
    have r := ih fun d' hd => H d' (List.mem_cons_of_mem _ hd)
    rw [compV_cons, h1, compT_some, h2]
    cases q : p d with
    | true => rw [cp1_true, h3 q, cp2_ok, cut_max, r, List.filter_cons_of_pos q]; rfl
    | false => rw [cp1_false, cut_max, r, List.filter_cons_of_neg (by simp [q])]
/-- .. without a test -/
theorem compV_all {g : D → D} {ds : List D} (H : ∀ d ∈ ds, ∃ e1, tgt t d e0 h = some e1 ∧ elt e1 h = .ok (g d) h) : compV t yesT elt e0 ds h = .ok (ds.map g) h := by
  have z := compV_map (t := t) (tst := yesT) (elt := elt) (e0 := e0) (h := h) (p := fun _ => true) (g := g) (ds := ds) fun d hd => by
    obtain ⟨e1, h1, h2⟩ := H d hd
    exact ⟨e1, h1, rfl, fun _ => h2⟩
  rw [z, List.filter_eq_self.mpr (fun _ _ => rfl)]
end
end Dy

/-! Small helps. -/
namespace Dy
open PySem PySem.Spec PyProof.Rows L2
@[simp] theorem in62_lit {i : Int} (q : -4611686018427387904 < i) (z : i < 4611686018427387904) : in62 i = true := by
  exact Nat.ble_eq_true_of_le (by omega)
@[simp] theorem non_1 : isNonD .non = true := rfl
@[simp] theorem non_2 {i : Int} : isNonD (.int i) = false := rfl
@[simp] theorem non_3 {i : Bool} : isNonD (.bl i) = false := rfl
@[simp] theorem non_4 {i : Str} : isNonD (.str i) = false := rfl
@[simp] theorem non_5 {i : List D} : isNonD (.tup i) = false := rfl
@[simp] theorem non_6 {i : Nat} : isNonD (.ref i) = false := rfl
/-- what a statement ends in, asked -/
theorem ok_iff {r : Res D} {d : D} {h : PH} (q : r = .ok d h) : ∃ h, r = .ok d h := ⟨h, q⟩
@[simp] theorem mr_non : (D.non).mr = 0 := rfl
@[simp] theorem mr_int {i : Int} : (D.int i).mr = 0 := rfl
@[simp] theorem mr_bl {i : Bool} : (D.bl i).mr = 0 := rfl
@[simp] theorem mr_str {i : Str} : (D.str i).mr = 0 := rfl
@[simp] theorem mr_ref {i : Nat} : (D.ref i).mr = i + 1 := rfl
@[simp] theorem mr_tup {ds : List D} : (D.tup ds).mr = mrL ds := rfl
@[simp] theorem mr_frl {ds : List D} : (D.frl ds).mr = mrL ds := rfl
@[simp] theorem mrL_nil : mrL [] = 0 := rfl
@[simp] theorem mrL_cons {d : D} {ds : List D} : mrL (d :: ds) = max d.mr (mrL ds) := rfl
@[simp] theorem mr_lst {ds : List D} : (Cell.lst ds).mr = mrL ds := rfl
@[simp] theorem mrL_int {ns : List Int} : mrL (ns.map D.int) = 0 := mrL_ints ns
@[simp] theorem cut_self {h : PH} : h.cut h.cs.length = h := cut_ge (Nat.le_refl _)
@[simp] theorem isi1 {i : Int} {h : PH} : isiF (.int i) (.ty "int") h = .ok (.bl true) h := by
  show (if tyAsk.contains "int" = true then Res.ok (D.bl (isiB "int" "int")) h else .stuck) = _
  rw [if_pos (by decide +kernel), show isiB "int" "int" = true by decide +kernel]
@[simp] theorem isi2 {i : Int} {h : PH} : isiF (.int i) (.ty "bool") h = .ok (.bl false) h := by
  show (if tyAsk.contains "bool" = true then Res.ok (D.bl (isiB "int" "bool")) h else .stuck) = _
  rw [if_pos (by decide +kernel), show isiB "int" "bool" = false by decide +kernel]
@[simp] theorem isi3 {i : Bool} {h : PH} : isiF (.bl i) (.ty "bool") h = .ok (.bl true) h := by
  show (if tyAsk.contains "bool" = true then Res.ok (D.bl (isiB "bool" "bool")) h else .stuck) = _
  rw [if_pos (by decide +kernel), show isiB "bool" "bool" = true by decide +kernel]
@[simp] theorem isi4 {i : Bool} {h : PH} : isiF (.bl i) (.ty "int") h = .ok (.bl true) h := by
  show (if tyAsk.contains "int" = true then Res.ok (D.bl (isiB "bool" "int")) h else .stuck) = _
  rw [if_pos (by decide +kernel), show isiB "bool" "int" = true by decide +kernel]
@[simp] theorem isi5 {i : List D} {h : PH} : isiF (.tup i) (.ty "tuple") h = .ok (.bl true) h := by
  show (if tyAsk.contains "tuple" = true then Res.ok (D.bl (isiB "tuple" "tuple")) h else .stuck) = _
  rw [if_pos (by decide +kernel), show isiB "tuple" "tuple" = true by decide +kernel]
@[simp] theorem isi6 {i : Str} {h : PH} : isiF (.str i) (.ty "str") h = .ok (.bl true) h := by
  show (if tyAsk.contains "str" = true then Res.ok (D.bl (isiB "str" "str")) h else .stuck) = _
  rw [if_pos (by decide +kernel), show isiB "str" "str" = true by decide +kernel]
@[simp] theorem isi7 {i : Str} {h : PH} : isiF (.str i) (.ty "int") h = .ok (.bl false) h := by
  show (if tyAsk.contains "int" = true then Res.ok (D.bl (isiB "str" "int")) h else .stuck) = _
  rw [if_pos (by decide +kernel), show isiB "str" "int" = false by decide +kernel]
@[simp] theorem isi8 {h : PH} : isiF .non (.ty "int") h = .ok (.bl false) h := by
  show (if tyAsk.contains "int" = true then Res.ok (D.bl (isiB "NoneType" "int")) h else .stuck) = _
  rw [if_pos (by decide +kernel), show isiB "NoneType" "int" = false by decide +kernel]
@[simp] theorem isi9 {i : List D} {h : PH} : isiF (.tup i) (.ty "int") h = .ok (.bl false) h := by
  show (if tyAsk.contains "int" = true then Res.ok (D.bl (isiB "tuple" "int")) h else .stuck) = _
  rw [if_pos (by decide +kernel), show isiB "tuple" "int" = false by decide +kernel]
@[simp] theorem takeV_z {q : Dst} {m : Int} : 0 ≤ takeV q m := takeV_0
/-! ### the heap of a law -/
variable {q : Dst} {r : List Cell} {n : Nat} {c : Cell}
@[simp] theorem dh_push : (dh q r).push c = dh q (r ++ [c]) := rfl
@[simp] theorem dh_push' : (⟨(dh q r).cs ++ [c], 0⟩ : PH) = dh q (r ++ [c]) := rfl
theorem dh_put (z : c.mr ≤ n + 2) : (dh q r).put (n + 2) c = dh q (r.set n c) := by
  rw [put_le z]; rfl
@[simp] theorem dh_set : (⟨(dh q r).cs.set (n + 2) c, 0⟩ : PH) = dh q (r.set n c) := rfl
@[simp] theorem dh_cut {m : Nat} : (dh q r).cut (m + 2) = dh q (r.take m) := rfl
theorem dh_gc {m : Nat} {e : Env} (z : r.length ≤ m) : (dh q r).gc (m + 2) e = dh q r := gc_max (by rw [dh_len]; omega)
@[simp] theorem dh_gc2 {e : Env} : (dh q []).gc 2 e = dh q [] := gc_max (Nat.le_refl _)
@[simp] theorem dh_gc3 {e : Env} : (dh q [c]).gc 3 e = dh q [c] := gc_max (Nat.le_refl _)
@[simp] theorem dh_gc4 {e : Env} {c1 : Cell} : (dh q [c, c1]).gc 4 e = dh q [c, c1] := gc_max (Nat.le_refl _)
@[simp] theorem dh_gc5 {e : Env} {c1 c2 : Cell} : (dh q [c, c1, c2]).gc 5 e = dh q [c, c1, c2] := gc_max (Nat.le_refl _)
end Dy

namespace Lk47
open PySem PySem.Spec PyProof.Rows L2 Dy
def top (i : Nat) : Stmt := PySem.Challenge.pw_tensorcompiler_k47_code_texts.main.body.getD i (.Pass ⟨0, 0, 0, 0⟩)
def c_EXECUTION_LIMIT : D := .int 1000000000
def c_NEST_LIMIT : D := .int 16
def c_CODE_LIMIT : D := .int 4000000
def c_WIDEST : D := .int 1606938044258990275541962092341162602522202993782792835301376
def c_POINTWISE : D := .tup [.str "add", .str "sub", .str "mul", .str "max", .str "min", .str "less", .str "equal", .str "neg", .str "clamp", .str "shift", .str "where"]
def c_LIMITS : D := .tup [.tup [.int 32, .int 256], .tup [.int 1, .int 16384], .tup [.int 16, .int 4096], .tup [.int 1, .int 4], .tup [.int 1, .int 16]]
def c_FIGURE_LIMIT : D := .int 90
def c_FIGURES : D := .str "0123456789"
def c_OFFSETS : List (Str × D) := [("set", .tup []), ("do", .tup []), ("load", .tup [.int 3]), ("store", .tup [.int 2]), ("mac", .tup [.int 3, .int 5]), ("vector", .tup []), ("loop", .tup []), ("end", .tup []), ("skip", .tup []), ("in", .tup [.int 3, .int 5]), ("out", .tup [.int 3, .int 5]), ("wait", .tup [])]
def c_SLOTS : List (Str × D) := [("set", .tup [.int 1]), ("do", .tup [.int 2]), ("load", .tup [.int 1, .int 2]), ("store", .tup [.int 1, .int 3]), ("mac", .tup [.int 1, .int 2, .int 4]), ("vector", .tup [.int 2, .int 3, .int 4]), ("loop", .tup [.int 1]), ("end", .tup []), ("skip", .tup [.int 1]), ("in", .tup [.int 2, .int 4]), ("out", .tup [.int 2, .int 4]), ("wait", .tup [])]
def c_ARGS : List (Str × D) := [("input", .int 0), ("const", .int 0), ("add", .int 2), ("sub", .int 2), ("mul", .int 2), ("max", .int 2), ("min", .int 2), ("less", .int 2), ("equal", .int 2), ("neg", .int 1), ("clamp", .int 1), ("shift", .int 1), ("where", .int 3), ("sum", .int 1), ("peak", .int 1), ("dot", .int 2), ("order", .int 1), ("rename", .int 1), ("spread", .int 1), ("cut", .int 1), ("pad", .int 1), ("join", .int 2), ("window", .int 1), ("fold", .int 1), ("gather", .int 2)]
def c_FIELDS : List (Str × D) := [("input", .int 3), ("const", .int 2), ("add", .int 0), ("sub", .int 0), ("mul", .int 0), ("max", .int 0), ("min", .int 0), ("less", .int 0), ("equal", .int 0), ("neg", .int 0), ("clamp", .int 2), ("shift", .int 1), ("where", .int 0), ("sum", .int 1), ("peak", .int 1), ("dot", .int 1), ("order", .int 1), ("rename", .int 2), ("spread", .int 2), ("cut", .int 3), ("pad", .int 3), ("join", .int 1), ("window", .int 4), ("fold", .int 4), ("gather", .int 1)]
def c_LENGTHS : List (Str × D) := [("set", .int 3), ("do", .int 5), ("load", .int 4), ("store", .int 4), ("mac", .int 7), ("vector", .int 6), ("loop", .int 5), ("end", .int 1), ("skip", .int 3), ("in", .int 7), ("out", .int 7), ("wait", .int 2)]
def tb : Tb := { con := [("EXECUTION_LIMIT", c_EXECUTION_LIMIT), ("NEST_LIMIT", c_NEST_LIMIT), ("CODE_LIMIT", c_CODE_LIMIT), ("WIDEST", c_WIDEST), ("POINTWISE", c_POINTWISE), ("LIMITS", c_LIMITS), ("FIGURE_LIMIT", c_FIGURE_LIMIT), ("FIGURES", c_FIGURES)], free := ["range", "isinstance", "str", "tuple", "max", "len", "all", "int", "abs", "list"], exc := ["TensorError", "TextError", "TooLarge", "RangeError", "FormError", "MachineError"], sub := [((("TextError" : Str), ("TensorError" : Str)), true), ((("TextError" : Str), ("TextError" : Str)), true), ((("TooLarge" : Str), ("TensorError" : Str)), true), ((("TooLarge" : Str), ("TextError" : Str)), false), ((("RangeError" : Str), ("TensorError" : Str)), true), ((("RangeError" : Str), ("TextError" : Str)), false), ((("FormError" : Str), ("TensorError" : Str)), true), ((("FormError" : Str), ("TextError" : Str)), false), ((("MachineError" : Str), ("TensorError" : Str)), true), ((("MachineError" : Str), ("TextError" : Str)), false)], gcd := [], subT := [], dic := [("OFFSETS", c_OFFSETS), ("SLOTS", c_SLOTS), ("ARGS", c_ARGS), ("FIELDS", c_FIELDS), ("LENGTHS", c_LENGTHS)], fld := [], mth := [], mkr := [] }
def fldT (c f : Str) : Bool := look2 c f tb.fld
def gl : List Str := [("steps_in" : Str), ("fits_width" : Str), ("loop_in_range" : Str), ("fields_in_range" : Str), ("own_in_range" : Str), ("in_range" : Str), ("check_skip" : Str), ("depths_of" : Str), ("well_formed" : Str), ("check_machine" : Str), ("check_code" : Str), ("read_integer" : Str), ("number_in" : Str), ("kind_in" : Str), ("group_in" : Str), ("do_in" : Str), ("instruction_in" : Str), ("read_code" : Str), ("_law_told" : Str), ("line_of" : Str), ("write_code" : Str), ("_law_take" : Str), ("_law_bent" : Str), ("_law_line" : Str), ("_law_signed" : Str), ("_law_transfer" : Str), ("_law_info_of" : Str), ("_law_do" : Str), ("_law_instruction" : Str), ("_law_block" : Str), ("_law_machine" : Str), ("_law_begin" : Str), ("law" : Str)]
def fn : List He.DefD := [dD "steps_in" (top 33), dD "fits_width" (top 19), dD "loop_in_range" (top 30), dD "fields_in_range" (top 15), dD "own_in_range" (top 31), dD "in_range" (top 32), dD "check_skip" (top 29), dD "depths_of" (top 28), dD "well_formed" (top 27), dD "check_machine" (top 18), dD "check_code" (top 34), dD "read_integer" (top 9), dD "number_in" (top 39), dD "kind_in" (top 40), dD "group_in" (top 41), dD "do_in" (top 42), dD "instruction_in" (top 43), dD "read_code" (top 44), dD "_law_told" (top 56), dD "line_of" (top 37), dD "write_code" (top 38), dD "_law_take" (top 47), dD "_law_bent" (top 57), dD "_law_line" (top 55), dD "_law_signed" (top 48), dD "_law_transfer" (top 52), dD "_law_info_of" (top 50), dD "_law_do" (top 51), dD "_law_instruction" (top 53), dD "_law_block" (top 54), dD "_law_machine" (top 49), dD "_law_begin" (top 46), dD "law" (top 58)]
def subO (x c : Str) : Option Bool := if tb.exc.contains c = true then subLook c x tb.sub else none
def isE (c x : Str) (i : Nat) : EM := match (match subLook c x tb.sub with
  | some b => some (cE (.bl b))
  | none => (match subLook c x tb.subT with
    | some b => some (cE (.bl b))
    | none => none)) with
  | some m => m
  | none => nA (f2 isiF) (consA (vE i) (consA stuckE nilA))
/-! ### the defs -/
-- steps_in: 0 code, 1 totals, 2 counts, 3 instruction, 4 inner
def b_steps_in_0 : SM := seqS (ifS (tbT (b2E eqF (b2E ixF (vE 3) (cE (.int 0))) (cE (.str "loop")))) (seqS (exprS (mtE "list" appF (vE 1) (consA (cE (.int 0)) (nilA)))) (seqS (exprS (mtE "list" appF (vE 2) (consA (b2E ixF (vE 3) (cE (.int 4))) (nilA)))) (nextS))) (seqS (ifS (tbT (b2E eqF (b2E ixF (vE 3) (cE (.int 0))) (cE (.str "end")))) (seqS (asgS (mtE "list" popF (vE 1) (nilA)) (.one 4)) (seqS (sixS (b2E addF (b2E addF (b2E ixF (vE 1) (u1E negF (cE (.int 1)))) (cE (.int 1))) (b2E mulF (mtE "list" popF (vE 2) (nilA)) (b2E addF (vE 4) (cE (.int 1))))) (vE 1) (u1E negF (cE (.int 1)))) (nextS))) (seqS (sixS (b2E addF (b2E ixF (vE 1) (u1E negF (cE (.int 1)))) (cE (.int 1))) (vE 1) (u1E negF (cE (.int 1)))) (nextS))) (nextS))) (nextS)
def s_steps_in : SM := seqS (asgS (nA lstF (consA (cE (.int 0)) (nilA))) (.one 1)) (seqS (asgS (nA lstF (consA (cE (.int 1)) (nilA))) (.one 2)) (seqS (forS (srcE (vE 0)) (.one 3) b_steps_in_0) (seqS (retS (b2E ixF (vE 1) (cE (.int 0)))) (nextS))))
def f_steps_in : Fn := runF s_steps_in 1 5
-- fits_width: 0 width, 1 n
def s_fits_width : SM := seqS (retS (chE leF ltF (u1E negF (b2E shlF (cE (.int 1)) (b2E subF (vE 0) (cE (.int 1))))) (vE 1) (b2E shlF (cE (.int 1)) (b2E subF (vE 0) (cE (.int 1)))))) (nextS)
def f_fits_width : Fn := runF s_fits_width 2 2
-- loop_in_range: 0 width, 1 instruction, 2 start, 3 step, 4 count, 5 wide
def s_loop_in_range : SM := seqS (asgS (slE (vE 1) (someO (cE (.int 2))) (someO (cE (.int 5)))) (.many [2, 3, 4])) (seqS (asgS (b2E shlF (cE (.int 1)) (vE 0)) (.one 5)) (seqS (ifS (orT (notT (tbT (chE leF leF (cE (.int 1)) (vE 4) (cE (.int 1000))))) (orT (notT (tbT (chE leF leF (u1E negF (vE 5)) (vE 2) (vE 5)))) (notT (tbT (chE leF leF (u1E negF (vE 5)) (vE 3) (vE 5)))))) (seqS (retS (cE (.bl false))) (nextS)) (nextS)) (seqS (retS (andE (nA (callF 2 f_fits_width) (consA (vE 0) (consA (vE 2) (nilA)))) (nA (callF 2 f_fits_width) (consA (vE 0) (consA (b2E addF (vE 2) (b2E mulF (vE 3) (b2E subF (vE 4) (cE (.int 1))))) (nilA)))))) (nextS))))
def f_loop_in_range : Fn := runF s_loop_in_range 2 6
-- fields_in_range: 0 kind, 1 info
def s_fields_in_range : SM := seqS (ifS (tbT (b2E eqF (vE 0) (cE (.str "clamp")))) (seqS (retS (ch3E leF leF leF (u1E negF (cE c_WIDEST)) (b2E ixF (vE 1) (cE (.int 0))) (b2E ixF (vE 1) (cE (.int 1))) (cE c_WIDEST))) (nextS)) (nextS)) (seqS (ifS (tbT (b2E eqF (vE 0) (cE (.str "shift")))) (seqS (retS (chE leF leF (cE (.int 1)) (b2E ixF (vE 1) (cE (.int 0))) (cE (.int 30)))) (nextS)) (nextS)) (seqS (retS (cE (.bl true))) (nextS)))
def f_fields_in_range : Fn := runF s_fields_in_range 2 2
-- own_in_range: 0 machine, 1 instruction, 2 width, 3 main, 4 near, 5 queues, 6 lanes, 7 name, 8 good, 9 s, 10 n
def e_own_in_range_0 : EM := nA (callF 2 f_fits_width) (consA (vE 2) (consA (vE 10) (nilA)))
def e_own_in_range_1 : EM := chE leF leF (cE (.int 0)) (vE 9) (cE (.int 31))
def s_own_in_range : SM := seqS (asgS (vE 0) (.many [2, 3, 4, 5, 6])) (seqS (asgS (b2E ixF (vE 1) (cE (.int 0))) (.one 7)) (seqS (ifS (tbT (b2E eqF (vE 7) (cE (.str "set")))) (seqS (retS (nA (callF 2 f_fits_width) (consA (vE 2) (consA (b2E ixF (vE 1) (cE (.int 2))) (nilA))))) (nextS)) (nextS)) (seqS (ifS (tbT (b2E eqF (vE 7) (cE (.str "do")))) (seqS (asgS (andE (nA (f1 allF) (consA (compXE (srcE (b2E ixF (vE 1) (cE (.int 3)))) [9] (.one 9) yesT e_own_in_range_1) (nilA))) (nA (callF 2 f_fields_in_range) (consA (b2E ixF (vE 1) (cE (.int 1))) (consA (b2E ixF (vE 1) (cE (.int 4))) (nilA))))) (.one 8)) (seqS (ifS (tbT (b2E eqF (b2E ixF (vE 1) (cE (.int 1))) (cE (.str "clamp")))) (seqS (asgS (andE (vE 8) (nA (f1 allF) (consA (compXE (srcE (b2E ixF (vE 1) (cE (.int 4)))) [10] (.one 10) yesT e_own_in_range_0) (nilA)))) (.one 8)) (nextS)) (nextS)) (seqS (retS (vE 8)) (nextS)))) (nextS)) (seqS (ifS (tbT (b2E eqF (vE 7) (cE (.str "mac")))) (seqS (retS (chE leF leF (cE (.int 1)) (b2E ixF (vE 1) (cE (.int 6))) (vE 6))) (nextS)) (nextS)) (seqS (ifS (tbT (b2E eqF (vE 7) (cE (.str "vector")))) (seqS (retS (chE leF leF (cE (.int 1)) (b2E ixF (vE 1) (cE (.int 5))) (vE 6))) (nextS)) (nextS)) (seqS (ifS (tbT (b2E eqF (vE 7) (cE (.str "loop")))) (seqS (retS (nA (callF 2 f_loop_in_range) (consA (vE 2) (consA (vE 1) (nilA))))) (nextS)) (nextS)) (seqS (ifS (tbT (b2E eqF (vE 7) (cE (.str "skip")))) (seqS (retS (chE leF leF (cE (.int 0)) (b2E ixF (vE 1) (cE (.int 2))) (cE c_CODE_LIMIT))) (nextS)) (nextS)) (seqS (ifS (tbT (b2E inF (vE 7) (nA tupF (consA (cE (.str "in")) (consA (cE (.str "out")) (nilA)))))) (seqS (retS (andE (chE leF ltF (cE (.int 0)) (b2E ixF (vE 1) (cE (.int 1))) (vE 5)) (chE leF leF (cE (.int 1)) (b2E ixF (vE 1) (cE (.int 6))) (cE (.int 4096))))) (nextS)) (nextS)) (seqS (ifS (tbT (b2E eqF (vE 7) (cE (.str "wait")))) (seqS (retS (chE leF ltF (cE (.int 0)) (b2E ixF (vE 1) (cE (.int 1))) (vE 5))) (nextS)) (nextS)) (seqS (retS (cE (.bl true))) (nextS)))))))))))
def f_own_in_range : Fn := runF s_own_in_range 2 11
-- in_range: 0 machine, 1 instruction, 2 name, 3 k
def e_in_range_0 : EM := chE leF leF (u1E negF (cE (.int 16384))) (b2E ixF (vE 1) (vE 3)) (cE (.int 16384))
def e_in_range_1 : EM := chE leF leF (cE (.int 0)) (b2E ixF (vE 1) (vE 3)) (cE (.int 31))
def s_in_range : SM := seqS (asgS (b2E ixF (vE 1) (cE (.int 0))) (.one 2)) (seqS (ifS (notT (trT (nA (f1 allF) (consA (compXE (srcE (b2E (dIx "SLOTS" c_SLOTS) (cE (.glb "SLOTS")) (vE 2))) [3] (.one 3) yesT e_in_range_1) (nilA))))) (seqS (retS (cE (.bl false))) (nextS)) (nextS)) (seqS (ifS (notT (trT (nA (f1 allF) (consA (compXE (srcE (b2E (dIx "OFFSETS" c_OFFSETS) (cE (.glb "OFFSETS")) (vE 2))) [3] (.one 3) yesT e_in_range_0) (nilA))))) (seqS (retS (cE (.bl false))) (nextS)) (nextS)) (seqS (retS (nA (callF 2 f_own_in_range) (consA (vE 0) (consA (vE 1) (nilA))))) (nextS))))
def f_in_range : Fn := runF s_in_range 2 4
-- check_skip: 0 code, 1 at, 2 depth, 3 k
def b_check_skip_0 : SM := seqS (ifS (tbT (b2E geF (vE 3) (nA (f1 lenF) (consA (vE 0) (nilA))))) (seqS (raiseS "FormError") (nextS)) (nextS)) (seqS (ifS (tbT (b2E eqF (b2E ixF (b2E ixF (vE 0) (vE 3)) (cE (.int 0))) (cE (.str "loop")))) (seqS (asgS (b2E addF (vE 2) (cE (.int 1))) (.one 2)) (nextS)) (seqS (ifS (tbT (b2E eqF (b2E ixF (b2E ixF (vE 0) (vE 3)) (cE (.int 0))) (cE (.str "end")))) (seqS (asgS (b2E subF (vE 2) (cE (.int 1))) (.one 2)) (nextS)) (nextS)) (nextS))) (seqS (ifS (tbT (b2E ltF (vE 2) (cE (.int 0)))) (seqS (raiseS "FormError") (nextS)) (nextS)) (nextS)))
def s_check_skip : SM := seqS (asgS (cE (.int 0)) (.one 2)) (seqS (forS (rngE rangeF2 (consA (b2E addF (vE 1) (cE (.int 1))) (consA (b2E addF (b2E addF (vE 1) (cE (.int 1))) (nA (f2 max2F) (consA (cE (.int 0)) (consA (b2E ixF (b2E ixF (vE 0) (vE 1)) (cE (.int 2))) (nilA))))) (nilA)))) (.one 3) b_check_skip_0) (seqS (ifS (tbT (b2E neF (vE 2) (cE (.int 0)))) (seqS (raiseS "FormError") (nextS)) (nextS)) (nextS)))
def f_check_skip : Fn := runF s_check_skip 2 4
-- depths_of: 0 code, 1 depths, 2 depth, 3 instruction
def b_depths_of_0 : SM := seqS (ifS (tbT (b2E eqF (b2E ixF (vE 3) (cE (.int 0))) (cE (.str "end")))) (seqS (asgS (b2E subF (vE 2) (cE (.int 1))) (.one 2)) (seqS (ifS (tbT (b2E ltF (vE 2) (cE (.int 0)))) (seqS (raiseS "FormError") (nextS)) (nextS)) (nextS))) (nextS)) (seqS (exprS (mtE "list" appF (vE 1) (consA (vE 2) (nilA)))) (seqS (ifS (tbT (b2E eqF (b2E ixF (vE 3) (cE (.int 0))) (cE (.str "loop")))) (seqS (asgS (b2E addF (vE 2) (cE (.int 1))) (.one 2)) (nextS)) (nextS)) (nextS)))
def s_depths_of : SM := seqS (asgS (nA lstF (nilA)) (.one 1)) (seqS (asgS (cE (.int 0)) (.one 2)) (seqS (forS (srcE (vE 0)) (.one 3) b_depths_of_0) (seqS (ifS (tbT (b2E neF (vE 2) (cE (.int 0)))) (seqS (raiseS "FormError") (nextS)) (nextS)) (seqS (retS (vE 1)) (nextS)))))
def f_depths_of : Fn := runF s_depths_of 1 4
-- well_formed: 0 instruction, 1 kind
def s_well_formed : SM := seqS (ifS (orT (tbT (b2E eqF (nA (f1 lenF) (consA (vE 0) (nilA))) (cE (.int 0)))) (tbT (b2E (dNotIn "LENGTHS" c_LENGTHS) (b2E ixF (vE 0) (cE (.int 0))) (cE (.glb "LENGTHS"))))) (seqS (retS (cE (.bl false))) (nextS)) (nextS)) (seqS (ifS (tbT (b2E neF (nA (f1 lenF) (consA (vE 0) (nilA))) (b2E (dIx "LENGTHS" c_LENGTHS) (cE (.glb "LENGTHS")) (b2E ixF (vE 0) (cE (.int 0)))))) (seqS (retS (cE (.bl false))) (nextS)) (nextS)) (seqS (ifS (tbT (b2E eqF (b2E ixF (vE 0) (cE (.int 0))) (cE (.str "do")))) (seqS (asgS (b2E ixF (vE 0) (cE (.int 1))) (.one 1)) (seqS (ifS (tbT (b2E notInF (vE 1) (cE c_POINTWISE))) (seqS (retS (cE (.bl false))) (nextS)) (nextS)) (seqS (retS (andE (b2E eqF (nA (f1 lenF) (consA (b2E ixF (vE 0) (cE (.int 3))) (nilA))) (b2E (dIx "ARGS" c_ARGS) (cE (.glb "ARGS")) (vE 1))) (b2E eqF (nA (f1 lenF) (consA (b2E ixF (vE 0) (cE (.int 4))) (nilA))) (b2E (dIx "FIELDS" c_FIELDS) (cE (.glb "FIELDS")) (vE 1))))) (nextS)))) (nextS)) (seqS (ifS (tbT (b2E eqF (b2E ixF (vE 0) (cE (.int 0))) (cE (.str "vector")))) (seqS (retS (andE (b2E inF (b2E ixF (vE 0) (cE (.int 1))) (cE c_POINTWISE)) (b2E eqF (b2E (dIx "ARGS" c_ARGS) (cE (.glb "ARGS")) (b2E ixF (vE 0) (cE (.int 1)))) (cE (.int 2))))) (nextS)) (nextS)) (seqS (retS (cE (.bl true))) (nextS)))))
def f_well_formed : Fn := runF s_well_formed 1 2
-- check_machine: 0 machine, 1 k
def b_check_machine_0 : SM := seqS (ifS (orT (tbT (b2E ltF (b2E ixF (vE 0) (vE 1)) (b2E ixF (b2E ixF (cE c_LIMITS) (vE 1)) (cE (.int 0))))) (tbT (b2E gtF (b2E ixF (vE 0) (vE 1)) (b2E ixF (b2E ixF (cE c_LIMITS) (vE 1)) (cE (.int 1)))))) (seqS (raiseS "MachineError") (nextS)) (nextS)) (nextS)
def s_check_machine : SM := seqS (forS (rngE rangeF1 (consA (cE (.int 5)) (nilA))) (.one 1) b_check_machine_0) (nextS)
def f_check_machine : Fn := runF s_check_machine 1 2
-- check_code: 0 machine, 1 code, 2 instruction, 3 depths, 4 at
def b_check_code_0 : SM := seqS (ifS (notT (trT (nA (callF 2 f_in_range) (consA (vE 0) (consA (vE 2) (nilA)))))) (seqS (raiseS "RangeError") (nextS)) (nextS)) (nextS)
def b_check_code_1 : SM := seqS (ifS (tbT (b2E eqF (b2E ixF (b2E ixF (vE 1) (vE 4)) (cE (.int 0))) (cE (.str "skip")))) (seqS (exprS (nA (callF 2 f_check_skip) (consA (vE 1) (consA (vE 4) (nilA))))) (nextS)) (nextS)) (nextS)
def b_check_code_2 : SM := seqS (ifS (notT (trT (nA (callF 1 f_well_formed) (consA (vE 2) (nilA))))) (seqS (raiseS "FormError") (nextS)) (nextS)) (nextS)
def s_check_code : SM := seqS (exprS (nA (callF 1 f_check_machine) (consA (vE 0) (nilA)))) (seqS (forS (srcE (vE 1)) (.one 2) b_check_code_2) (seqS (asgS (nA (callF 1 f_depths_of) (consA (vE 1) (nilA))) (.one 3)) (seqS (forS (rngE rangeF1 (consA (nA (f1 lenF) (consA (vE 1) (nilA))) (nilA))) (.one 4) b_check_code_1) (seqS (forS (srcE (vE 1)) (.one 2) b_check_code_0) (seqS (ifS (orT (tbT (b2E gtF (nA (f1 lenF) (consA (vE 1) (nilA))) (cE c_CODE_LIMIT))) (orT (tbT (b2E gtF (nA (f1 max1F) (consA (b2E addF (nA lstF (consA (cE (.int 0)) (nilA))) (vE 3)) (nilA))) (cE c_NEST_LIMIT))) (tbT (b2E gtF (nA (callF 1 f_steps_in) (consA (vE 1) (nilA))) (cE c_EXECUTION_LIMIT))))) (seqS (raiseS "TooLarge") (nextS)) (nextS)) (nextS))))))
def f_check_code : Fn := runF s_check_code 2 5
-- read_integer: 0 word, 1 most, 2 digits, 3 sign
def b_read_integer_0 : SM := seqS (ifS (tbT (b2E notInF (vE 3) (cE c_FIGURES))) (seqS (retS (cE (.non))) (nextS)) (nextS)) (nextS)
def s_read_integer : SM := seqS (asgS (vE 0) (.one 2)) (seqS (ifS (tbT (b2E eqF (slE (vE 0) (noO) (someO (cE (.int 1)))) (cE (.str "-")))) (seqS (asgS (slE (vE 0) (someO (cE (.int 1))) (noO)) (.one 2)) (nextS)) (nextS)) (seqS (ifS (orT (tbT (b2E eqF (vE 2) (cE (.str "")))) (tbT (b2E gtF (nA (f1 lenF) (consA (vE 2) (nilA))) (vE 1)))) (seqS (retS (cE (.non))) (nextS)) (nextS)) (seqS (forS (srcE (vE 2)) (.one 3) b_read_integer_0) (seqS (ifS (andT (tbT (b2E eqF (b2E ixF (vE 2) (cE (.int 0))) (cE (.str "0")))) (orT (tbT (b2E gtF (nA (f1 lenF) (consA (vE 2) (nilA))) (cE (.int 1)))) (tbT (b2E gtF (nA (f1 lenF) (consA (vE 0) (nilA))) (cE (.int 1)))))) (seqS (retS (cE (.non))) (nextS)) (nextS)) (seqS (retS (nA (f1 intF) (consA (vE 0) (nilA)))) (nextS))))))
def f_read_integer : Fn := runF s_read_integer 2 4
-- number_in: 0 word, 1 n
def s_number_in : SM := seqS (asgS (nA (callF 2 f_read_integer) (consA (vE 0) (consA (cE c_FIGURE_LIMIT) (nilA)))) (.one 1)) (seqS (ifS (tbT (b2E isF (vE 1) (cE (.non)))) (seqS (raiseS "TextError") (nextS)) (nextS)) (seqS (retS (vE 1)) (nextS)))
def f_number_in : Fn := runF s_number_in 1 2
-- kind_in: 0 word
def s_kind_in : SM := seqS (ifS (tbT (b2E notInF (vE 0) (cE c_POINTWISE))) (seqS (raiseS "TextError") (nextS)) (nextS)) (seqS (retS (vE 0)) (nextS))
def f_kind_in : Fn := runF s_kind_in 1 1
-- group_in: 0 words, 1 many, 2 word
def e_group_in_0 : EM := nA (callF 1 f_number_in) (consA (vE 2) (nilA))
def s_group_in : SM := seqS (ifS (tbT (b2E eqF (nA (f1 lenF) (consA (vE 0) (nilA))) (cE (.int 0)))) (seqS (raiseS "TextError") (nextS)) (nextS)) (seqS (asgS (nA (callF 1 f_number_in) (consA (b2E ixF (vE 0) (cE (.int 0))) (nilA))) (.one 1)) (seqS (ifS (orT (tbT (b2E ltF (vE 1) (cE (.int 0)))) (tbT (b2E gtF (vE 1) (b2E subF (nA (f1 lenF) (consA (vE 0) (nilA))) (cE (.int 1)))))) (seqS (raiseS "TextError") (nextS)) (nextS)) (seqS (retS (nA tupF (consA (nA (f1 tupleF) (consA (compXE (srcE (slE (vE 0) (someO (cE (.int 1))) (someO (b2E addF (cE (.int 1)) (vE 1))))) [2] (.one 2) yesT e_group_in_0) (nilA))) (consA (slE (vE 0) (someO (b2E addF (cE (.int 1)) (vE 1))) (noO)) (nilA))))) (nextS))))
def f_group_in : Fn := runF s_group_in 1 3
-- do_in: 0 words, 1 kind, 2 d, 3 sources, 4 rest, 5 info
def s_do_in : SM := seqS (ifS (tbT (b2E ltF (nA (f1 lenF) (consA (vE 0) (nilA))) (cE (.int 3)))) (seqS (raiseS "TextError") (nextS)) (nextS)) (seqS (asgS (nA (callF 1 f_kind_in) (consA (b2E ixF (vE 0) (cE (.int 1))) (nilA))) (.one 1)) (seqS (asgS (nA (callF 1 f_number_in) (consA (b2E ixF (vE 0) (cE (.int 2))) (nilA))) (.one 2)) (seqS (asgS (nA (callF 1 f_group_in) (consA (slE (vE 0) (someO (cE (.int 3))) (noO)) (nilA))) (.many [3, 4])) (seqS (asgS (nA (callF 1 f_group_in) (consA (vE 4) (nilA))) (.many [5, 4])) (seqS (ifS (tbT (b2E gtF (nA (f1 lenF) (consA (vE 4) (nilA))) (cE (.int 0)))) (seqS (raiseS "TextError") (nextS)) (nextS)) (seqS (retS (nA tupF (consA (cE (.str "do")) (consA (vE 1) (consA (vE 2) (consA (vE 3) (consA (vE 5) (nilA)))))))) (nextS)))))))
def f_do_in : Fn := runF s_do_in 1 6
-- instruction_in: 0 line, 1 words, 2 name, 3 word
def e_instruction_in_0 : EM := nA (callF 1 f_number_in) (consA (vE 3) (nilA))
def e_instruction_in_1 : EM := nA (callF 1 f_number_in) (consA (vE 3) (nilA))
def s_instruction_in : SM := seqS (asgS (mtE "str" splitF (vE 0) (consA (cE (.str " ")) (nilA))) (.one 1)) (seqS (asgS (b2E ixF (vE 1) (cE (.int 0))) (.one 2)) (seqS (ifS (tbT (b2E (dNotIn "LENGTHS" c_LENGTHS) (vE 2) (cE (.glb "LENGTHS")))) (seqS (raiseS "TextError") (nextS)) (nextS)) (seqS (ifS (tbT (b2E eqF (vE 2) (cE (.str "do")))) (seqS (retS (nA (callF 1 f_do_in) (consA (vE 1) (nilA)))) (nextS)) (nextS)) (seqS (ifS (tbT (b2E neF (nA (f1 lenF) (consA (vE 1) (nilA))) (b2E (dIx "LENGTHS" c_LENGTHS) (cE (.glb "LENGTHS")) (vE 2)))) (seqS (raiseS "TextError") (nextS)) (nextS)) (seqS (ifS (tbT (b2E eqF (vE 2) (cE (.str "vector")))) (seqS (retS (b2E addF (nA tupF (consA (vE 2) (consA (nA (callF 1 f_kind_in) (consA (b2E ixF (vE 1) (cE (.int 1))) (nilA))) (nilA)))) (nA (f1 tupleF) (consA (compXE (srcE (slE (vE 1) (someO (cE (.int 2))) (noO))) [3] (.one 3) yesT e_instruction_in_1) (nilA))))) (nextS)) (nextS)) (seqS (retS (b2E addF (nA tupF (consA (vE 2) (nilA))) (nA (f1 tupleF) (consA (compXE (srcE (slE (vE 1) (someO (cE (.int 1))) (noO))) [3] (.one 3) yesT e_instruction_in_0) (nilA))))) (nextS)))))))
def f_instruction_in : Fn := runF s_instruction_in 1 4
-- read_code: 0 machine, 1 text, 2 lines, 3 code, 4 line
def e_read_code_0 : EM := nA (callF 1 f_instruction_in) (consA (vE 4) (nilA))
def s_read_code : SM := seqS (exprS (nA (callF 1 f_check_machine) (consA (vE 0) (nilA)))) (seqS (asgS (mtE "str" splitF (vE 1) (consA (cE (.str "\n")) (nilA))) (.one 2)) (seqS (ifS (tbT (b2E neF (b2E ixF (vE 2) (u1E negF (cE (.int 1)))) (cE (.str "")))) (seqS (raiseS "TextError") (nextS)) (nextS)) (seqS (asgS (nA (f1 tupleF) (consA (compXE (srcE (slE (vE 2) (noO) (someO (u1E negF (cE (.int 1)))))) [4] (.one 4) yesT e_read_code_0) (nilA))) (.one 3)) (seqS (exprS (nA (callF 2 f_check_code) (consA (vE 0) (consA (vE 3) (nilA))))) (seqS (retS (vE 3)) (nextS))))))
def f_read_code : Fn := runF s_read_code 2 5
-- _law_told: 0 machine, 1 text, 2 code, 3 e
def b__law_told_1 : SM := seqS (asgS (nA (callF 2 f_read_code) (consA (vE 0) (consA (vE 1) (nilA)))) (.one 2)) (nextS)
def s__law_told : SM := seqS (tryS b__law_told_1 (some 3) (subO "TensorError") fun c => seqS (retS (ifE (trT (isE c "TextError" 3)) (cE (.str "text")) (cE (.str "other")))) (nextS)) (seqS (retS (vE 2)) (nextS))
def f__law_told : Fn := runF s__law_told 2 4
-- line_of: 0 instruction, 1 words, 2 field, 3 n
def e_line_of_1 : EM := nA (f1 strF) (consA (vE 3) (nilA))
def b_line_of_0 : SM := seqS (ifS (trT (nA (f2 isiF) (consA (vE 2) (consA (cE (.ty "tuple")) (nilA))))) (seqS (exprS (mtE "list" appF (vE 1) (consA (nA (f1 strF) (consA (nA (f1 lenF) (consA (vE 2) (nilA))) (nilA))) (nilA)))) (seqS (asgS (b2E addF (vE 1) (compXE (srcE (vE 2)) [3] (.one 3) yesT e_line_of_1)) (.one 1)) (nextS))) (seqS (exprS (mtE "list" appF (vE 1) (consA (nA (f1 strF) (consA (vE 2) (nilA))) (nilA)))) (nextS))) (nextS)
def s_line_of : SM := seqS (asgS (nA lstF (nilA)) (.one 1)) (seqS (forS (srcE (vE 0)) (.one 2) b_line_of_0) (seqS (retS (mtE "str" joinF (cE (.str " ")) (consA (vE 1) (nilA)))) (nextS)))
def f_line_of : Fn := runF s_line_of 1 4
-- write_code: 0 machine, 1 code, 2 instruction
def e_write_code_0 : EM := b2E addF (nA (callF 1 f_line_of) (consA (vE 2) (nilA))) (cE (.str "\n"))
def s_write_code : SM := seqS (exprS (nA (callF 2 f_check_code) (consA (vE 0) (consA (vE 1) (nilA))))) (seqS (retS (mtE "str" joinF (cE (.str "")) (consA (compXE (srcE (vE 1)) [2] (.one 2) yesT e_write_code_0) (nilA)))) (nextS))
def f_write_code : Fn := runF s_write_code 2 3
abbrev s__law_take : SM := s_take
abbrev f__law_take : Fn := f_take
-- _law_bent: 0 d, 1 text, 2 menu, 3 lines, 4 here, 5 place, 6 sign, 7 words, 8 spot
def s__law_bent : SM := seqS (asgS (nA (callF 2 f__law_take) (consA (vE 0) (consA (cE (.int 7)) (nilA)))) (.one 2)) (seqS (asgS (mtE "str" splitF (vE 1) (consA (cE (.str "\n")) (nilA))) (.one 3)) (seqS (asgS (nA (callF 2 f__law_take) (consA (vE 0) (consA (nA (f1 lenF) (consA (vE 3) (nilA))) (nilA)))) (.one 4)) (seqS (asgS (nA (callF 2 f__law_take) (consA (vE 0) (consA (b2E addF (nA (f1 lenF) (consA (vE 1) (nilA))) (cE (.int 1))) (nilA)))) (.one 5)) (seqS (asgS (b2E ixF (cE (.str "0123456789- \nadl")) (nA (callF 2 f__law_take) (consA (vE 0) (consA (cE (.int 16)) (nilA))))) (.one 6)) (seqS (ifS (tbT (b2E ltF (vE 2) (cE (.int 2)))) (seqS (retS (b2E addF (b2E addF (slE (vE 1) (noO) (someO (vE 5))) (vE 6)) (slE (vE 1) (someO (b2E addF (vE 5) (cE (.int 1)))) (noO)))) (nextS)) (nextS)) (seqS (ifS (tbT (b2E eqF (vE 2) (cE (.int 2)))) (seqS (retS (b2E addF (b2E addF (slE (vE 1) (noO) (someO (vE 5))) (vE 6)) (slE (vE 1) (someO (vE 5)) (noO)))) (nextS)) (nextS)) (seqS (ifS (tbT (b2E eqF (vE 2) (cE (.int 3)))) (seqS (retS (b2E addF (slE (vE 1) (noO) (someO (vE 5))) (slE (vE 1) (someO (b2E addF (vE 5) (cE (.int 1)))) (noO)))) (nextS)) (nextS)) (seqS (ifS (tbT (b2E eqF (vE 2) (cE (.int 4)))) (seqS (retS (mtE "str" joinF (cE (.str "\n")) (consA (b2E addF (slE (vE 3) (noO) (someO (vE 4))) (slE (vE 3) (someO (b2E addF (vE 4) (cE (.int 1)))) (noO))) (nilA)))) (nextS)) (nextS)) (seqS (ifS (tbT (b2E eqF (vE 2) (cE (.int 5)))) (seqS (retS (mtE "str" joinF (cE (.str "\n")) (consA (b2E addF (slE (vE 3) (noO) (someO (b2E addF (vE 4) (cE (.int 1))))) (slE (vE 3) (someO (vE 4)) (noO))) (nilA)))) (nextS)) (nextS)) (seqS (asgS (mtE "str" splitF (b2E ixF (vE 3) (vE 4)) (consA (cE (.str " ")) (nilA))) (.one 7)) (seqS (asgS (nA (callF 2 f__law_take) (consA (vE 0) (consA (nA (f1 lenF) (consA (vE 7) (nilA))) (nilA)))) (.one 8)) (seqS (retS (mtE "str" joinF (cE (.str "\n")) (consA (b2E addF (b2E addF (slE (vE 3) (noO) (someO (vE 4))) (nA lstF (consA (mtE "str" joinF (cE (.str " ")) (consA (b2E addF (slE (vE 7) (noO) (someO (b2E addF (vE 8) (cE (.int 1))))) (slE (vE 7) (someO (vE 8)) (noO))) (nilA))) (nilA)))) (slE (vE 3) (someO (b2E addF (vE 4) (cE (.int 1)))) (noO))) (nilA)))) (nextS)))))))))))))
def f__law_bent : Fn := runF s__law_bent 2 9
-- _law_line: 0 ins, 1 words, 2 field, 3 n
def e__law_line_1 : EM := nA (f1 strF) (consA (vE 3) (nilA))
def b__law_line_0 : SM := seqS (ifS (trT (nA (f2 isiF) (consA (vE 2) (consA (cE (.ty "tuple")) (nilA))))) (seqS (asgS (b2E addF (b2E addF (vE 1) (nA lstF (consA (nA (f1 strF) (consA (nA (f1 lenF) (consA (vE 2) (nilA))) (nilA))) (nilA)))) (compXE (srcE (vE 2)) [3] (.one 3) yesT e__law_line_1)) (.one 1)) (nextS)) (seqS (exprS (mtE "list" appF (vE 1) (consA (nA (f1 strF) (consA (vE 2) (nilA))) (nilA)))) (nextS))) (nextS)
def s__law_line : SM := seqS (asgS (nA lstF (nilA)) (.one 1)) (seqS (forS (srcE (vE 0)) (.one 2) b__law_line_0) (seqS (retS (b2E addF (mtE "str" joinF (cE (.str " ")) (consA (vE 1) (nilA))) (cE (.str "\n")))) (nextS)))
def f__law_line : Fn := runF s__law_line 1 4
-- _law_signed: 0 d, 1 most
def s__law_signed : SM := seqS (retS (b2E subF (nA (callF 2 f__law_take) (consA (vE 0) (consA (b2E addF (b2E mulF (cE (.int 2)) (vE 1)) (cE (.int 1))) (nilA)))) (vE 1))) (nextS)
def f__law_signed : Fn := runF s__law_signed 2 2
-- _law_transfer: 0 d, 1 machine, 2 count, 3 n, 4 m
def s__law_transfer : SM := seqS (asgS (b2E addF (cE (.int 1)) (nA (callF 2 f__law_take) (consA (vE 0) (consA (cE (.int 3)) (nilA))))) (.one 2)) (seqS (asgS (nA (callF 2 f__law_take) (consA (vE 0) (consA (nA (f2 max2F) (consA (cE (.int 1)) (consA (b2E addF (b2E subF (b2E ixF (vE 1) (cE (.int 1))) (vE 2)) (cE (.int 1))) (nilA)))) (nilA)))) (.one 3)) (seqS (asgS (nA (callF 2 f__law_take) (consA (vE 0) (consA (b2E addF (b2E subF (b2E ixF (vE 1) (cE (.int 2))) (vE 2)) (cE (.int 1))) (nilA)))) (.one 4)) (seqS (retS (nA tupF (consA (b2E ixF (nA tupF (consA (cE (.str "in")) (consA (cE (.str "in")) (consA (cE (.str "out")) (nilA))))) (nA (callF 2 f__law_take) (consA (vE 0) (consA (cE (.int 3)) (nilA))))) (consA (nA (callF 2 f__law_take) (consA (vE 0) (consA (b2E ixF (vE 1) (cE (.int 3))) (nilA)))) (consA (nA (callF 2 f__law_take) (consA (vE 0) (consA (cE (.int 3)) (nilA)))) (consA (vE 3) (consA (nA (callF 2 f__law_take) (consA (vE 0) (consA (cE (.int 3)) (nilA)))) (consA (vE 4) (consA (vE 2) (nilA)))))))))) (nextS))))
def f__law_transfer : Fn := runF s__law_transfer 2 5
-- _law_info_of: 0 d, 1 kind, 2 low
def s__law_info_of : SM := seqS (ifS (tbT (b2E eqF (vE 1) (cE (.str "clamp")))) (seqS (asgS (nA (callF 2 f__law_signed) (consA (vE 0) (consA (cE (.int 9)) (nilA)))) (.one 2)) (seqS (retS (nA tupF (consA (vE 2) (consA (b2E addF (vE 2) (nA (callF 2 f__law_take) (consA (vE 0) (consA (cE (.int 12)) (nilA))))) (nilA))))) (nextS))) (nextS)) (seqS (retS (ifE (tbT (b2E eqF (vE 1) (cE (.str "shift")))) (nA tupF (consA (b2E addF (cE (.int 1)) (nA (callF 2 f__law_take) (consA (vE 0) (consA (cE (.int 3)) (nilA))))) (nilA))) (nA tupF (nilA)))) (nextS))
def f__law_info_of : Fn := runF s__law_info_of 2 3
-- _law_do: 0 d, 1 most, 2 kinds, 3 kind, 4 many, 5 k
def e__law_do_0 : EM := nA (callF 2 f__law_take) (consA (vE 0) (consA (vE 1) (nilA)))
def s__law_do : SM := seqS (asgS (nA tupF (consA (cE (.str "add")) (consA (cE (.str "sub")) (consA (cE (.str "mul")) (consA (cE (.str "max")) (consA (cE (.str "min")) (consA (cE (.str "less")) (consA (cE (.str "equal")) (consA (cE (.str "neg")) (consA (cE (.str "clamp")) (consA (cE (.str "shift")) (consA (cE (.str "where")) (consA (cE (.str "add")) (nilA)))))))))))))) (.one 2)) (seqS (asgS (b2E ixF (vE 2) (nA (callF 2 f__law_take) (consA (vE 0) (consA (cE (.int 12)) (nilA))))) (.one 3)) (seqS (asgS (ifE (tbT (b2E inF (vE 3) (nA tupF (consA (cE (.str "neg")) (consA (cE (.str "clamp")) (consA (cE (.str "shift")) (nilA))))))) (cE (.int 1)) (ifE (tbT (b2E eqF (vE 3) (cE (.str "where")))) (cE (.int 3)) (cE (.int 2)))) (.one 4)) (seqS (retS (nA tupF (consA (cE (.str "do")) (consA (vE 3) (consA (nA (callF 2 f__law_take) (consA (vE 0) (consA (vE 1) (nilA)))) (consA (nA (f1 tupleF) (consA (compXE (rngE rangeF1 (consA (vE 4) (nilA))) [5] (.one 5) yesT e__law_do_0) (nilA))) (consA (nA (callF 2 f__law_info_of) (consA (vE 0) (consA (vE 3) (nilA)))) (nilA)))))))) (nextS))))
def f__law_do : Fn := runF s__law_do 2 6
-- _law_instruction: 0 d, 1 machine, 2 menu, 3 count, 4 kind
def s__law_instruction : SM := seqS (asgS (nA (callF 2 f__law_take) (consA (vE 0) (consA (cE (.int 13)) (nilA)))) (.one 2)) (seqS (ifS (tbT (b2E ltF (vE 2) (cE (.int 2)))) (seqS (retS (nA tupF (consA (cE (.str "set")) (consA (nA (callF 2 f__law_take) (consA (vE 0) (consA (cE (.int 6)) (nilA)))) (consA (ifE (tbT (b2E eqF (vE 2) (cE (.int 0)))) (nA (callF 2 f__law_take) (consA (vE 0) (consA (cE (.int 3)) (nilA)))) (nA (callF 2 f__law_signed) (consA (vE 0) (consA (cE (.int 40)) (nilA))))) (nilA)))))) (nextS)) (nextS)) (seqS (ifS (tbT (b2E ltF (vE 2) (cE (.int 5)))) (seqS (retS (nA (callF 2 f__law_do) (consA (vE 0) (consA (cE (.int 6)) (nilA))))) (nextS)) (nextS)) (seqS (ifS (tbT (b2E eqF (vE 2) (cE (.int 5)))) (seqS (retS (nA tupF (consA (cE (.str "load")) (consA (b2E addF (cE (.int 2)) (nA (callF 2 f__law_take) (consA (vE 0) (consA (cE (.int 4)) (nilA))))) (consA (nA (callF 2 f__law_take) (consA (vE 0) (consA (cE (.int 4)) (nilA)))) (consA (nA (callF 2 f__law_take) (consA (vE 0) (consA (b2E ixF (vE 1) (cE (.int 2))) (nilA)))) (nilA))))))) (nextS)) (nextS)) (seqS (ifS (tbT (b2E eqF (vE 2) (cE (.int 6)))) (seqS (retS (nA tupF (consA (cE (.str "store")) (consA (nA (callF 2 f__law_take) (consA (vE 0) (consA (cE (.int 4)) (nilA)))) (consA (nA (callF 2 f__law_take) (consA (vE 0) (consA (b2E ixF (vE 1) (cE (.int 2))) (nilA)))) (consA (nA (callF 2 f__law_take) (consA (vE 0) (consA (cE (.int 6)) (nilA)))) (nilA))))))) (nextS)) (nextS)) (seqS (ifS (tbT (b2E eqF (vE 2) (cE (.int 7)))) (seqS (asgS (b2E addF (cE (.int 1)) (nA (callF 2 f__law_take) (consA (vE 0) (consA (b2E ixF (vE 1) (cE (.int 4))) (nilA))))) (.one 3)) (seqS (retS (nA tupF (consA (cE (.str "mac")) (consA (b2E addF (cE (.int 2)) (nA (callF 2 f__law_take) (consA (vE 0) (consA (cE (.int 4)) (nilA))))) (consA (nA (callF 2 f__law_take) (consA (vE 0) (consA (cE (.int 3)) (nilA)))) (consA (nA (callF 2 f__law_take) (consA (vE 0) (consA (cE (.int 3)) (nilA)))) (consA (nA (callF 2 f__law_take) (consA (vE 0) (consA (cE (.int 3)) (nilA)))) (consA (cE (.int 1)) (consA (vE 3) (nilA)))))))))) (nextS))) (nextS)) (seqS (ifS (tbT (b2E eqF (vE 2) (cE (.int 8)))) (seqS (asgS (b2E addF (cE (.int 1)) (nA (callF 2 f__law_take) (consA (vE 0) (consA (b2E ixF (vE 1) (cE (.int 4))) (nilA))))) (.one 3)) (seqS (asgS (b2E ixF (nA tupF (consA (cE (.str "add")) (consA (cE (.str "sub")) (consA (cE (.str "mul")) (consA (cE (.str "max")) (consA (cE (.str "min")) (consA (cE (.str "less")) (consA (cE (.str "equal")) (nilA))))))))) (nA (callF 2 f__law_take) (consA (vE 0) (consA (cE (.int 7)) (nilA))))) (.one 4)) (seqS (retS (nA tupF (consA (cE (.str "vector")) (consA (vE 4) (consA (nA (callF 2 f__law_take) (consA (vE 0) (consA (cE (.int 3)) (nilA)))) (consA (nA (callF 2 f__law_take) (consA (vE 0) (consA (cE (.int 3)) (nilA)))) (consA (nA (callF 2 f__law_take) (consA (vE 0) (consA (cE (.int 3)) (nilA)))) (consA (vE 3) (nilA))))))))) (nextS)))) (nextS)) (seqS (ifS (orT (tbT (b2E eqF (vE 2) (cE (.int 9)))) (tbT (b2E eqF (vE 2) (cE (.int 10))))) (seqS (retS (nA (callF 2 f__law_transfer) (consA (vE 0) (consA (vE 1) (nilA))))) (nextS)) (nextS)) (seqS (ifS (tbT (b2E eqF (vE 2) (cE (.int 11)))) (seqS (retS (nA tupF (consA (cE (.str "wait")) (consA (nA (callF 2 f__law_take) (consA (vE 0) (consA (b2E ixF (vE 1) (cE (.int 3))) (nilA)))) (nilA))))) (nextS)) (nextS)) (seqS (retS (nA tupF (consA (cE (.str "store")) (consA (cE (.int 0)) (consA (nA (callF 2 f__law_take) (consA (vE 0) (consA (b2E ixF (vE 1) (cE (.int 2))) (nilA)))) (consA (nA (callF 2 f__law_take) (consA (vE 0) (consA (cE (.int 6)) (nilA)))) (nilA))))))) (nextS))))))))))
def f__law_instruction : Fn := runF s__law_instruction 2 5
-- _law_block: 0 d, 1 machine, 2 depth, 3 many, 4 code, 5 k, 6 menu, 7 head, 8 inner
def b__law_block_0 (r__law_block : Fn) : SM := seqS (asgS (ifE (tbT (b2E ltF (vE 2) (cE (.int 3)))) (nA (callF 2 f__law_take) (consA (vE 0) (consA (cE (.int 9)) (nilA)))) (cE (.int 2))) (.one 6)) (seqS (ifS (tbT (b2E eqF (vE 6) (cE (.int 0)))) (seqS (asgS (nA tupF (consA (cE (.str "loop")) (consA (nA (callF 2 f__law_take) (consA (vE 0) (consA (cE (.int 5)) (nilA)))) (consA (nA (callF 2 f__law_signed) (consA (vE 0) (consA (cE (.int 2)) (nilA)))) (consA (b2E ixF (nA tupF (consA (cE (.int 1)) (consA (cE (.int 2)) (consA (b2E subF (cE (.int 0)) (cE (.int 1))) (nilA))))) (nA (callF 2 f__law_take) (consA (vE 0) (consA (cE (.int 3)) (nilA))))) (consA (b2E addF (cE (.int 1)) (nA (callF 2 f__law_take) (consA (vE 0) (consA (cE (.int 3)) (nilA))))) (nilA))))))) (.one 7)) (seqS (asgS (b2E addF (b2E addF (b2E addF (vE 4) (nA lstF (consA (vE 7) (nilA)))) (nA (callF 4 r__law_block) (consA (vE 0) (consA (vE 1) (consA (b2E addF (vE 2) (cE (.int 1))) (consA (b2E addF (cE (.int 1)) (nA (callF 2 f__law_take) (consA (vE 0) (consA (cE (.int 3)) (nilA))))) (nilA))))))) (nA lstF (consA (nA tupF (consA (cE (.str "end")) (nilA))) (nilA)))) (.one 4)) (nextS))) (seqS (ifS (tbT (b2E eqF (vE 6) (cE (.int 1)))) (seqS (asgS (nA (callF 4 r__law_block) (consA (vE 0) (consA (vE 1) (consA (b2E addF (vE 2) (cE (.int 1))) (consA (b2E addF (cE (.int 1)) (nA (callF 2 f__law_take) (consA (vE 0) (consA (cE (.int 2)) (nilA))))) (nilA)))))) (.one 8)) (seqS (asgS (b2E addF (b2E addF (vE 4) (nA lstF (consA (nA tupF (consA (cE (.str "skip")) (consA (nA (callF 2 f__law_take) (consA (vE 0) (consA (cE (.int 5)) (nilA)))) (consA (nA (f1 lenF) (consA (vE 8) (nilA))) (nilA))))) (nilA)))) (vE 8)) (.one 4)) (nextS))) (seqS (exprS (mtE "list" appF (vE 4) (consA (nA (callF 2 f__law_instruction) (consA (vE 0) (consA (vE 1) (nilA)))) (nilA)))) (nextS))) (nextS))) (nextS))
def s__law_block (r__law_block : Fn) : SM := seqS (asgS (nA lstF (nilA)) (.one 4)) (seqS (forS (rngE rangeF1 (consA (vE 3) (nilA))) (.one 5) (b__law_block_0 r__law_block)) (seqS (retS (vE 4)) (nextS)))
def f__law_block : Nat → Fn
  | 0 => noneF
  | k + 1 => runF (s__law_block (f__law_block k)) 4 9
-- _law_machine: 0 d, 1 width
def s__law_machine : SM := seqS (asgS (b2E ixF (nA tupF (consA (cE (.int 32)) (consA (cE (.int 32)) (consA (cE (.int 33)) (consA (cE (.int 64)) (consA (cE (.int 256)) (nilA))))))) (nA (callF 2 f__law_take) (consA (vE 0) (consA (cE (.int 5)) (nilA))))) (.one 1)) (seqS (retS (nA tupF (consA (vE 1) (consA (b2E addF (cE (.int 4)) (nA (callF 2 f__law_take) (consA (vE 0) (consA (cE (.int 9)) (nilA))))) (consA (b2E addF (cE (.int 16)) (nA (callF 2 f__law_take) (consA (vE 0) (consA (cE (.int 5)) (nilA))))) (consA (b2E addF (cE (.int 1)) (nA (callF 2 f__law_take) (consA (vE 0) (consA (cE (.int 3)) (nilA))))) (consA (b2E addF (cE (.int 1)) (nA (callF 2 f__law_take) (consA (vE 0) (consA (cE (.int 4)) (nilA))))) (nilA)))))))) (nextS))
def f__law_machine : Fn := runF s__law_machine 1 2
abbrev s__law_begin : SM := s_begin
abbrev f__law_begin : Fn := f_begin
-- law: 0 script, 1 d, 2 machine, 3 code, 4 due, 5 text, 6 turn, 7 bent, 8 told, 9 ins
def b_law_0 : SM := seqS (asgS (nA (callF 2 f__law_bent) (consA (vE 1) (consA (vE 4) (nilA)))) (.one 7)) (seqS (asgS (nA (callF 2 f__law_told) (consA (vE 2) (consA (vE 7) (nilA)))) (.one 8)) (seqS (ifS (tbT (b2E notInF (vE 8) (nA tupF (consA (cE (.str "text")) (consA (cE (.str "other")) (nilA)))))) (seqS (ifS (tbT (b2E neF (nA (callF 2 f_write_code) (consA (vE 2) (consA (vE 8) (nilA)))) (vE 7))) (seqS (retS (cE (.bl false))) (nextS)) (nextS)) (nextS)) (nextS)) (seqS (ifS (orT (andT (tbT (b2E neF (vE 7) (cE (.str "")))) (tbT (b2E neF (slE (vE 7) (someO (u1E negF (cE (.int 1)))) (noO)) (cE (.str "\n"))))) (orT (tbT (b2E inF (cE (.str "  ")) (vE 7))) (orT (tbT (b2E inF (cE (.str " \n")) (vE 7))) (tbT (b2E inF (cE (.str "\n\n")) (vE 7)))))) (seqS (ifS (tbT (b2E neF (vE 8) (cE (.str "text")))) (seqS (retS (cE (.bl false))) (nextS)) (nextS)) (nextS)) (nextS)) (nextS))))
def e_law_1 : EM := nA (callF 1 f__law_line) (consA (vE 9) (nilA))
def s_law : SM := seqS (asgS (nA (callF 1 f__law_begin) (consA (vE 0) (nilA))) (.one 1)) (seqS (asgS (nA (callF 1 f__law_machine) (consA (vE 1) (nilA))) (.one 2)) (seqS (asgS (nA (f1 tupleF) (consA (nA (callF 4 (f__law_block 12)) (consA (vE 1) (consA (vE 2) (consA (cE (.int 0)) (consA (b2E addF (cE (.int 1)) (nA (callF 2 f__law_take) (consA (vE 1) (consA (cE (.int 7)) (nilA))))) (nilA)))))) (nilA))) (.one 3)) (seqS (asgS (mtE "str" joinF (cE (.str "")) (consA (compXE (srcE (vE 3)) [9] (.one 9) yesT e_law_1) (nilA))) (.one 4)) (seqS (asgS (nA (callF 2 f_write_code) (consA (vE 2) (consA (vE 3) (nilA)))) (.one 5)) (seqS (ifS (orT (notT (trT (nA (f2 isiF) (consA (vE 5) (consA (cE (.ty "str")) (nilA)))))) (orT (tbT (b2E neF (vE 5) (vE 4))) (orT (tbT (b2E neF (nA (callF 2 f_read_code) (consA (vE 2) (consA (vE 4) (nilA)))) (vE 3))) (tbT (b2E neF (nA (callF 2 f_write_code) (consA (vE 2) (consA (nA tupF (nilA)) (nilA)))) (cE (.str ""))))))) (seqS (retS (cE (.bl false))) (nextS)) (nextS)) (seqS (forS (rngE rangeF1 (consA (cE (.int 4)) (nilA))) (.one 6) b_law_0) (seqS (retS (andE (b2E eqF (nA (callF 2 f__law_told) (consA (vE 2) (consA (cE (.str "")) (nilA)))) (nA tupF (nilA))) (b2E eqF (nA (callF 2 f__law_told) (consA (vE 2) (consA (b2E addF (vE 4) (cE (.str "\n"))) (nilA)))) (cE (.str "text"))))) (nextS))))))))
def f_law : Fn := runF s_law 1 10
/-! ### the walks -/
theorem sc_steps_in : FnScope ["code", "totals", "counts", "instruction", "inner"] ["code"] (defScope (top 33)) := ⟨rfl, rfl, rfl, by decide +kernel, rfl, by decide +kernel, by decide +kernel⟩
def T_steps_in : List (Str × (Nat × Fn)) := []
theorem cc_steps_in : cSs 400 (defSC ["code", "totals", "counts", "instruction", "inner"] (defScope (top 33)) (tb.tab (T_steps_in)) 0) (defBody (top 33)) = s_steps_in := by kernel_rfl
theorem sc_fits_width : FnScope ["width", "n"] ["width", "n"] (defScope (top 19)) := ⟨rfl, rfl, rfl, by decide +kernel, rfl, by decide +kernel, by decide +kernel⟩
def T_fits_width : List (Str × (Nat × Fn)) := []
theorem cc_fits_width : cSs 400 (defSC ["width", "n"] (defScope (top 19)) (tb.tab (T_fits_width)) 0) (defBody (top 19)) = s_fits_width := by kernel_rfl
theorem sc_loop_in_range : FnScope ["width", "instruction", "start", "step", "count", "wide"] ["width", "instruction"] (defScope (top 30)) := ⟨rfl, rfl, rfl, by decide +kernel, rfl, by decide +kernel, by decide +kernel⟩
def T_loop_in_range : List (Str × (Nat × Fn)) := [("fits_width", 2, f_fits_width)]
theorem cc_loop_in_range : cSs 400 (defSC ["width", "instruction", "start", "step", "count", "wide"] (defScope (top 30)) (tb.tab (T_loop_in_range)) 1) (defBody (top 30)) = s_loop_in_range := by kernel_rfl
theorem sc_fields_in_range : FnScope ["kind", "info"] ["kind", "info"] (defScope (top 15)) := ⟨rfl, rfl, rfl, by decide +kernel, rfl, by decide +kernel, by decide +kernel⟩
def T_fields_in_range : List (Str × (Nat × Fn)) := []
theorem cc_fields_in_range : cSs 400 (defSC ["kind", "info"] (defScope (top 15)) (tb.tab (T_fields_in_range)) 0) (defBody (top 15)) = s_fields_in_range := by kernel_rfl
theorem sc_own_in_range : FnScope ["machine", "instruction", "width", "main", "near", "queues", "lanes", "name", "good", "s", "n"] ["machine", "instruction"] (defScope (top 31)) := ⟨rfl, rfl, rfl, by decide +kernel, rfl, by decide +kernel, by decide +kernel⟩
def T_own_in_range : List (Str × (Nat × Fn)) := [("loop_in_range", 2, f_loop_in_range), ("fits_width", 2, f_fits_width), ("fields_in_range", 2, f_fields_in_range)]
theorem cc_own_in_range : cSs 400 (defSC ["machine", "instruction", "width", "main", "near", "queues", "lanes", "name", "good", "s", "n"] (defScope (top 31)) (tb.tab (T_own_in_range)) 2) (defBody (top 31)) = s_own_in_range := by kernel_rfl
theorem sc_in_range : FnScope ["machine", "instruction", "name", "k"] ["machine", "instruction"] (defScope (top 32)) := ⟨rfl, rfl, rfl, by decide +kernel, rfl, by decide +kernel, by decide +kernel⟩
def T_in_range : List (Str × (Nat × Fn)) := [("own_in_range", 2, f_own_in_range)]
theorem cc_in_range : cSs 400 (defSC ["machine", "instruction", "name", "k"] (defScope (top 32)) (tb.tab (T_in_range)) 3) (defBody (top 32)) = s_in_range := by kernel_rfl
theorem sc_check_skip : FnScope ["code", "at", "depth", "k"] ["code", "at"] (defScope (top 29)) := ⟨rfl, rfl, rfl, by decide +kernel, rfl, by decide +kernel, by decide +kernel⟩
def T_check_skip : List (Str × (Nat × Fn)) := []
theorem cc_check_skip : cSs 400 (defSC ["code", "at", "depth", "k"] (defScope (top 29)) (tb.tab (T_check_skip)) 0) (defBody (top 29)) = s_check_skip := by kernel_rfl
theorem sc_depths_of : FnScope ["code", "depths", "depth", "instruction"] ["code"] (defScope (top 28)) := ⟨rfl, rfl, rfl, by decide +kernel, rfl, by decide +kernel, by decide +kernel⟩
def T_depths_of : List (Str × (Nat × Fn)) := []
theorem cc_depths_of : cSs 400 (defSC ["code", "depths", "depth", "instruction"] (defScope (top 28)) (tb.tab (T_depths_of)) 0) (defBody (top 28)) = s_depths_of := by kernel_rfl
theorem sc_well_formed : FnScope ["instruction", "kind"] ["instruction"] (defScope (top 27)) := ⟨rfl, rfl, rfl, by decide +kernel, rfl, by decide +kernel, by decide +kernel⟩
def T_well_formed : List (Str × (Nat × Fn)) := []
theorem cc_well_formed : cSs 400 (defSC ["instruction", "kind"] (defScope (top 27)) (tb.tab (T_well_formed)) 0) (defBody (top 27)) = s_well_formed := by kernel_rfl
theorem sc_check_machine : FnScope ["machine", "k"] ["machine"] (defScope (top 18)) := ⟨rfl, rfl, rfl, by decide +kernel, rfl, by decide +kernel, by decide +kernel⟩
def T_check_machine : List (Str × (Nat × Fn)) := []
theorem cc_check_machine : cSs 400 (defSC ["machine", "k"] (defScope (top 18)) (tb.tab (T_check_machine)) 0) (defBody (top 18)) = s_check_machine := by kernel_rfl
theorem sc_check_code : FnScope ["machine", "code", "instruction", "depths", "at"] ["machine", "code"] (defScope (top 34)) := ⟨rfl, rfl, rfl, by decide +kernel, rfl, by decide +kernel, by decide +kernel⟩
def T_check_code : List (Str × (Nat × Fn)) := [("steps_in", 1, f_steps_in), ("in_range", 2, f_in_range), ("check_skip", 2, f_check_skip), ("depths_of", 1, f_depths_of), ("well_formed", 1, f_well_formed), ("check_machine", 1, f_check_machine)]
theorem cc_check_code : cSs 400 (defSC ["machine", "code", "instruction", "depths", "at"] (defScope (top 34)) (tb.tab (T_check_code)) 4) (defBody (top 34)) = s_check_code := by kernel_rfl
theorem sc_read_integer : FnScope ["word", "most", "digits", "sign"] ["word", "most"] (defScope (top 9)) := ⟨rfl, rfl, rfl, by decide +kernel, rfl, by decide +kernel, by decide +kernel⟩
def T_read_integer : List (Str × (Nat × Fn)) := []
theorem cc_read_integer : cSs 400 (defSC ["word", "most", "digits", "sign"] (defScope (top 9)) (tb.tab (T_read_integer)) 0) (defBody (top 9)) = s_read_integer := by kernel_rfl
theorem sc_number_in : FnScope ["word", "n"] ["word"] (defScope (top 39)) := ⟨rfl, rfl, rfl, by decide +kernel, rfl, by decide +kernel, by decide +kernel⟩
def T_number_in : List (Str × (Nat × Fn)) := [("read_integer", 2, f_read_integer)]
theorem cc_number_in : cSs 400 (defSC ["word", "n"] (defScope (top 39)) (tb.tab (T_number_in)) 1) (defBody (top 39)) = s_number_in := by kernel_rfl
theorem sc_kind_in : FnScope ["word"] ["word"] (defScope (top 40)) := ⟨rfl, rfl, rfl, by decide +kernel, rfl, by decide +kernel, by decide +kernel⟩
def T_kind_in : List (Str × (Nat × Fn)) := []
theorem cc_kind_in : cSs 400 (defSC ["word"] (defScope (top 40)) (tb.tab (T_kind_in)) 0) (defBody (top 40)) = s_kind_in := by kernel_rfl
theorem sc_group_in : FnScope ["words", "many", "word"] ["words"] (defScope (top 41)) := ⟨rfl, rfl, rfl, by decide +kernel, rfl, by decide +kernel, by decide +kernel⟩
def T_group_in : List (Str × (Nat × Fn)) := [("number_in", 1, f_number_in)]
theorem cc_group_in : cSs 400 (defSC ["words", "many", "word"] (defScope (top 41)) (tb.tab (T_group_in)) 2) (defBody (top 41)) = s_group_in := by kernel_rfl
theorem sc_do_in : FnScope ["words", "kind", "d", "sources", "rest", "info"] ["words"] (defScope (top 42)) := ⟨rfl, rfl, rfl, by decide +kernel, rfl, by decide +kernel, by decide +kernel⟩
def T_do_in : List (Str × (Nat × Fn)) := [("group_in", 1, f_group_in), ("number_in", 1, f_number_in), ("kind_in", 1, f_kind_in)]
theorem cc_do_in : cSs 400 (defSC ["words", "kind", "d", "sources", "rest", "info"] (defScope (top 42)) (tb.tab (T_do_in)) 3) (defBody (top 42)) = s_do_in := by kernel_rfl
theorem sc_instruction_in : FnScope ["line", "words", "name", "word"] ["line"] (defScope (top 43)) := ⟨rfl, rfl, rfl, by decide +kernel, rfl, by decide +kernel, by decide +kernel⟩
def T_instruction_in : List (Str × (Nat × Fn)) := [("number_in", 1, f_number_in), ("kind_in", 1, f_kind_in), ("do_in", 1, f_do_in)]
theorem cc_instruction_in : cSs 400 (defSC ["line", "words", "name", "word"] (defScope (top 43)) (tb.tab (T_instruction_in)) 4) (defBody (top 43)) = s_instruction_in := by kernel_rfl
theorem sc_read_code : FnScope ["machine", "text", "lines", "code", "line"] ["machine", "text"] (defScope (top 44)) := ⟨rfl, rfl, rfl, by decide +kernel, rfl, by decide +kernel, by decide +kernel⟩
def T_read_code : List (Str × (Nat × Fn)) := [("check_code", 2, f_check_code), ("instruction_in", 1, f_instruction_in), ("check_machine", 1, f_check_machine)]
theorem cc_read_code : cSs 400 (defSC ["machine", "text", "lines", "code", "line"] (defScope (top 44)) (tb.tab (T_read_code)) 5) (defBody (top 44)) = s_read_code := by kernel_rfl
theorem sc__law_told : FnScope ["machine", "text", "code", "e"] ["machine", "text"] (defScope (top 56)) := ⟨rfl, rfl, rfl, by decide +kernel, rfl, by decide +kernel, by decide +kernel⟩
def T__law_told : List (Str × (Nat × Fn)) := [("read_code", 2, f_read_code)]
theorem cc__law_told : cSs 400 (defSC ["machine", "text", "code", "e"] (defScope (top 56)) (tb.tab (T__law_told)) 6) (defBody (top 56)) = s__law_told := by kernel_rfl
theorem sc_line_of : FnScope ["instruction", "words", "field", "n"] ["instruction"] (defScope (top 37)) := ⟨rfl, rfl, rfl, by decide +kernel, rfl, by decide +kernel, by decide +kernel⟩
def T_line_of : List (Str × (Nat × Fn)) := []
theorem cc_line_of : cSs 400 (defSC ["instruction", "words", "field", "n"] (defScope (top 37)) (tb.tab (T_line_of)) 0) (defBody (top 37)) = s_line_of := by kernel_rfl
theorem sc_write_code : FnScope ["machine", "code", "instruction"] ["machine", "code"] (defScope (top 38)) := ⟨rfl, rfl, rfl, by decide +kernel, rfl, by decide +kernel, by decide +kernel⟩
def T_write_code : List (Str × (Nat × Fn)) := [("line_of", 1, f_line_of), ("check_code", 2, f_check_code)]
theorem cc_write_code : cSs 400 (defSC ["machine", "code", "instruction"] (defScope (top 38)) (tb.tab (T_write_code)) 5) (defBody (top 38)) = s_write_code := by kernel_rfl
theorem sc__law_take : FnScope ["d", "many", "small", "digit"] ["d", "many"] (defScope (top 47)) := ⟨rfl, rfl, rfl, by decide +kernel, rfl, by decide +kernel, by decide +kernel⟩
def T__law_take : List (Str × (Nat × Fn)) := []
theorem cc__law_take : cSs 400 (defSC ["d", "many", "small", "digit"] (defScope (top 47)) (tb.tab (T__law_take)) 0) (defBody (top 47)) = s__law_take := by kernel_rfl
theorem sc__law_bent : FnScope ["d", "text", "menu", "lines", "here", "place", "sign", "words", "spot"] ["d", "text"] (defScope (top 57)) := ⟨rfl, rfl, rfl, by decide +kernel, rfl, by decide +kernel, by decide +kernel⟩
def T__law_bent : List (Str × (Nat × Fn)) := [("_law_take", 2, f__law_take)]
theorem cc__law_bent : cSs 400 (defSC ["d", "text", "menu", "lines", "here", "place", "sign", "words", "spot"] (defScope (top 57)) (tb.tab (T__law_bent)) 1) (defBody (top 57)) = s__law_bent := by kernel_rfl
theorem sc__law_line : FnScope ["ins", "words", "field", "n"] ["ins"] (defScope (top 55)) := ⟨rfl, rfl, rfl, by decide +kernel, rfl, by decide +kernel, by decide +kernel⟩
def T__law_line : List (Str × (Nat × Fn)) := []
theorem cc__law_line : cSs 400 (defSC ["ins", "words", "field", "n"] (defScope (top 55)) (tb.tab (T__law_line)) 0) (defBody (top 55)) = s__law_line := by kernel_rfl
theorem sc__law_signed : FnScope ["d", "most"] ["d", "most"] (defScope (top 48)) := ⟨rfl, rfl, rfl, by decide +kernel, rfl, by decide +kernel, by decide +kernel⟩
def T__law_signed : List (Str × (Nat × Fn)) := [("_law_take", 2, f__law_take)]
theorem cc__law_signed : cSs 400 (defSC ["d", "most"] (defScope (top 48)) (tb.tab (T__law_signed)) 1) (defBody (top 48)) = s__law_signed := by kernel_rfl
theorem sc__law_transfer : FnScope ["d", "machine", "count", "n", "m"] ["d", "machine"] (defScope (top 52)) := ⟨rfl, rfl, rfl, by decide +kernel, rfl, by decide +kernel, by decide +kernel⟩
def T__law_transfer : List (Str × (Nat × Fn)) := [("_law_take", 2, f__law_take)]
theorem cc__law_transfer : cSs 400 (defSC ["d", "machine", "count", "n", "m"] (defScope (top 52)) (tb.tab (T__law_transfer)) 1) (defBody (top 52)) = s__law_transfer := by kernel_rfl
theorem sc__law_info_of : FnScope ["d", "kind", "low"] ["d", "kind"] (defScope (top 50)) := ⟨rfl, rfl, rfl, by decide +kernel, rfl, by decide +kernel, by decide +kernel⟩
def T__law_info_of : List (Str × (Nat × Fn)) := [("_law_take", 2, f__law_take), ("_law_signed", 2, f__law_signed)]
theorem cc__law_info_of : cSs 400 (defSC ["d", "kind", "low"] (defScope (top 50)) (tb.tab (T__law_info_of)) 2) (defBody (top 50)) = s__law_info_of := by kernel_rfl
theorem sc__law_do : FnScope ["d", "most", "kinds", "kind", "many", "k"] ["d", "most"] (defScope (top 51)) := ⟨rfl, rfl, rfl, by decide +kernel, rfl, by decide +kernel, by decide +kernel⟩
def T__law_do : List (Str × (Nat × Fn)) := [("_law_info_of", 2, f__law_info_of), ("_law_take", 2, f__law_take)]
theorem cc__law_do : cSs 400 (defSC ["d", "most", "kinds", "kind", "many", "k"] (defScope (top 51)) (tb.tab (T__law_do)) 3) (defBody (top 51)) = s__law_do := by kernel_rfl
theorem sc__law_instruction : FnScope ["d", "machine", "menu", "count", "kind"] ["d", "machine"] (defScope (top 53)) := ⟨rfl, rfl, rfl, by decide +kernel, rfl, by decide +kernel, by decide +kernel⟩
def T__law_instruction : List (Str × (Nat × Fn)) := [("_law_take", 2, f__law_take), ("_law_transfer", 2, f__law_transfer), ("_law_do", 2, f__law_do), ("_law_signed", 2, f__law_signed)]
theorem cc__law_instruction : cSs 400 (defSC ["d", "machine", "menu", "count", "kind"] (defScope (top 53)) (tb.tab (T__law_instruction)) 4) (defBody (top 53)) = s__law_instruction := by kernel_rfl
theorem sc__law_block : FnScope ["d", "machine", "depth", "many", "code", "k", "menu", "head", "inner"] ["d", "machine", "depth", "many"] (defScope (top 54)) := ⟨rfl, rfl, rfl, by decide +kernel, rfl, by decide +kernel, by decide +kernel⟩
def T__law_block (r__law_block : Fn) : List (Str × (Nat × Fn)) := [("_law_block", 4, r__law_block), ("_law_take", 2, f__law_take), ("_law_signed", 2, f__law_signed), ("_law_instruction", 2, f__law_instruction)]
theorem cc__law_block (k : Nat) (r__law_block : Fn) : cSs 400 (defSC ["d", "machine", "depth", "many", "code", "k", "menu", "head", "inner"] (defScope (top 54)) (tb.tab (T__law_block r__law_block)) (5 + k)) (defBody (top 54)) = s__law_block r__law_block := by kernel_rfl
theorem sc__law_machine : FnScope ["d", "width"] ["d"] (defScope (top 49)) := ⟨rfl, rfl, rfl, by decide +kernel, rfl, by decide +kernel, by decide +kernel⟩
def T__law_machine : List (Str × (Nat × Fn)) := [("_law_take", 2, f__law_take)]
theorem cc__law_machine : cSs 400 (defSC ["d", "width"] (defScope (top 49)) (tb.tab (T__law_machine)) 1) (defBody (top 49)) = s__law_machine := by kernel_rfl
theorem sc__law_begin : FnScope ["script", "seed", "cell"] ["script"] (defScope (top 46)) := ⟨rfl, rfl, rfl, by decide +kernel, rfl, by decide +kernel, by decide +kernel⟩
def T__law_begin : List (Str × (Nat × Fn)) := []
theorem cc__law_begin : cSs 400 (defSC ["script", "seed", "cell"] (defScope (top 46)) (tb.tab (T__law_begin)) 0) (defBody (top 46)) = s__law_begin := by kernel_rfl
theorem sc_law : FnScope ["script", "d", "machine", "code", "due", "text", "turn", "bent", "told", "ins"] ["script"] (defScope (top 58)) := ⟨rfl, rfl, rfl, by decide +kernel, rfl, by decide +kernel, by decide +kernel⟩
def T_law : List (Str × (Nat × Fn)) := [("_law_told", 2, f__law_told), ("write_code", 2, f_write_code), ("_law_bent", 2, f__law_bent), ("read_code", 2, f_read_code), ("_law_line", 1, f__law_line), ("_law_block", 4, (f__law_block 12)), ("_law_take", 2, f__law_take), ("_law_machine", 1, f__law_machine), ("_law_begin", 1, f__law_begin)]
theorem cc_law : cSs 400 (defSC ["script", "d", "machine", "code", "due", "text", "turn", "bent", "told", "ins"] (defScope (top 58)) (tb.tab (T_law)) 17) (defBody (top 58)) = s_law := by kernel_rfl
section
variable {P : Program} {w : World} {K : PySem.W.Frag} {mg : Str → Option Value} {base : Heap}
theorem ca_steps_in (c : SaysX tb gl fn w K) (T : TbOk w K mg tb gl) : Cal P w K mg base 1 "steps_in" 1 f_steps_in :=
  cal_of c T 0 rfl (by simp [gl]) sc_steps_in (fun fd F => F.bindsN fun _ _ _ _ _ _ us hl => match us, hl with | [_], _ => rfl) Cals.nil f_steps_in (congrArg (fun z => runF z 1 5) cc_steps_in)
theorem ca_fits_width (c : SaysX tb gl fn w K) (T : TbOk w K mg tb gl) : Cal P w K mg base 1 "fits_width" 2 f_fits_width :=
  cal_of c T 1 rfl (by simp [gl]) sc_fits_width (fun fd F => F.bindsN fun _ _ _ _ _ _ us hl => match us, hl with | [_, _], _ => rfl) Cals.nil f_fits_width (congrArg (fun z => runF z 2 2) cc_fits_width)
theorem ca_loop_in_range (c : SaysX tb gl fn w K) (T : TbOk w K mg tb gl) : Cal P w K mg base 2 "loop_in_range" 2 f_loop_in_range :=
  cal_of c T 2 rfl (by simp [gl]) sc_loop_in_range (fun fd F => F.bindsN fun _ _ _ _ _ _ us hl => match us, hl with | [_, _], _ => rfl) (Cals.cons ((ca_fits_width c T).mono (by omega)) Cals.nil) f_loop_in_range (congrArg (fun z => runF z 2 6) cc_loop_in_range)
theorem ca_fields_in_range (c : SaysX tb gl fn w K) (T : TbOk w K mg tb gl) : Cal P w K mg base 1 "fields_in_range" 2 f_fields_in_range :=
  cal_of c T 3 rfl (by simp [gl]) sc_fields_in_range (fun fd F => F.bindsN fun _ _ _ _ _ _ us hl => match us, hl with | [_, _], _ => rfl) Cals.nil f_fields_in_range (congrArg (fun z => runF z 2 2) cc_fields_in_range)
theorem ca_own_in_range (c : SaysX tb gl fn w K) (T : TbOk w K mg tb gl) : Cal P w K mg base 3 "own_in_range" 2 f_own_in_range :=
  cal_of c T 4 rfl (by simp [gl]) sc_own_in_range (fun fd F => F.bindsN fun _ _ _ _ _ _ us hl => match us, hl with | [_, _], _ => rfl) (Cals.cons ((ca_loop_in_range c T).mono (by omega)) (Cals.cons ((ca_fits_width c T).mono (by omega)) (Cals.cons ((ca_fields_in_range c T).mono (by omega)) Cals.nil))) f_own_in_range (congrArg (fun z => runF z 2 11) cc_own_in_range)
theorem ca_in_range (c : SaysX tb gl fn w K) (T : TbOk w K mg tb gl) : Cal P w K mg base 4 "in_range" 2 f_in_range :=
  cal_of c T 5 rfl (by simp [gl]) sc_in_range (fun fd F => F.bindsN fun _ _ _ _ _ _ us hl => match us, hl with | [_, _], _ => rfl) (Cals.cons ((ca_own_in_range c T).mono (by omega)) Cals.nil) f_in_range (congrArg (fun z => runF z 2 4) cc_in_range)
theorem ca_check_skip (c : SaysX tb gl fn w K) (T : TbOk w K mg tb gl) : Cal P w K mg base 1 "check_skip" 2 f_check_skip :=
  cal_of c T 6 rfl (by simp [gl]) sc_check_skip (fun fd F => F.bindsN fun _ _ _ _ _ _ us hl => match us, hl with | [_, _], _ => rfl) Cals.nil f_check_skip (congrArg (fun z => runF z 2 4) cc_check_skip)
theorem ca_depths_of (c : SaysX tb gl fn w K) (T : TbOk w K mg tb gl) : Cal P w K mg base 1 "depths_of" 1 f_depths_of :=
  cal_of c T 7 rfl (by simp [gl]) sc_depths_of (fun fd F => F.bindsN fun _ _ _ _ _ _ us hl => match us, hl with | [_], _ => rfl) Cals.nil f_depths_of (congrArg (fun z => runF z 1 4) cc_depths_of)
theorem ca_well_formed (c : SaysX tb gl fn w K) (T : TbOk w K mg tb gl) : Cal P w K mg base 1 "well_formed" 1 f_well_formed :=
  cal_of c T 8 rfl (by simp [gl]) sc_well_formed (fun fd F => F.bindsN fun _ _ _ _ _ _ us hl => match us, hl with | [_], _ => rfl) Cals.nil f_well_formed (congrArg (fun z => runF z 1 2) cc_well_formed)
theorem ca_check_machine (c : SaysX tb gl fn w K) (T : TbOk w K mg tb gl) : Cal P w K mg base 1 "check_machine" 1 f_check_machine :=
  cal_of c T 9 rfl (by simp [gl]) sc_check_machine (fun fd F => F.bindsN fun _ _ _ _ _ _ us hl => match us, hl with | [_], _ => rfl) Cals.nil f_check_machine (congrArg (fun z => runF z 1 2) cc_check_machine)
theorem ca_check_code (c : SaysX tb gl fn w K) (T : TbOk w K mg tb gl) : Cal P w K mg base 5 "check_code" 2 f_check_code :=
  cal_of c T 10 rfl (by simp [gl]) sc_check_code (fun fd F => F.bindsN fun _ _ _ _ _ _ us hl => match us, hl with | [_, _], _ => rfl) (Cals.cons ((ca_steps_in c T).mono (by omega)) (Cals.cons ((ca_in_range c T).mono (by omega)) (Cals.cons ((ca_check_skip c T).mono (by omega)) (Cals.cons ((ca_depths_of c T).mono (by omega)) (Cals.cons ((ca_well_formed c T).mono (by omega)) (Cals.cons ((ca_check_machine c T).mono (by omega)) Cals.nil)))))) f_check_code (congrArg (fun z => runF z 2 5) cc_check_code)
theorem ca_read_integer (c : SaysX tb gl fn w K) (T : TbOk w K mg tb gl) : Cal P w K mg base 1 "read_integer" 2 f_read_integer :=
  cal_of c T 11 rfl (by simp [gl]) sc_read_integer (fun fd F => F.bindsN fun _ _ _ _ _ _ us hl => match us, hl with | [_, _], _ => rfl) Cals.nil f_read_integer (congrArg (fun z => runF z 2 4) cc_read_integer)
theorem ca_number_in (c : SaysX tb gl fn w K) (T : TbOk w K mg tb gl) : Cal P w K mg base 2 "number_in" 1 f_number_in :=
  cal_of c T 12 rfl (by simp [gl]) sc_number_in (fun fd F => F.bindsN fun _ _ _ _ _ _ us hl => match us, hl with | [_], _ => rfl) (Cals.cons ((ca_read_integer c T).mono (by omega)) Cals.nil) f_number_in (congrArg (fun z => runF z 1 2) cc_number_in)
theorem ca_kind_in (c : SaysX tb gl fn w K) (T : TbOk w K mg tb gl) : Cal P w K mg base 1 "kind_in" 1 f_kind_in :=
  cal_of c T 13 rfl (by simp [gl]) sc_kind_in (fun fd F => F.bindsN fun _ _ _ _ _ _ us hl => match us, hl with | [_], _ => rfl) Cals.nil f_kind_in (congrArg (fun z => runF z 1 1) cc_kind_in)
theorem ca_group_in (c : SaysX tb gl fn w K) (T : TbOk w K mg tb gl) : Cal P w K mg base 3 "group_in" 1 f_group_in :=
  cal_of c T 14 rfl (by simp [gl]) sc_group_in (fun fd F => F.bindsN fun _ _ _ _ _ _ us hl => match us, hl with | [_], _ => rfl) (Cals.cons ((ca_number_in c T).mono (by omega)) Cals.nil) f_group_in (congrArg (fun z => runF z 1 3) cc_group_in)
theorem ca_do_in (c : SaysX tb gl fn w K) (T : TbOk w K mg tb gl) : Cal P w K mg base 4 "do_in" 1 f_do_in :=
  cal_of c T 15 rfl (by simp [gl]) sc_do_in (fun fd F => F.bindsN fun _ _ _ _ _ _ us hl => match us, hl with | [_], _ => rfl) (Cals.cons ((ca_group_in c T).mono (by omega)) (Cals.cons ((ca_number_in c T).mono (by omega)) (Cals.cons ((ca_kind_in c T).mono (by omega)) Cals.nil))) f_do_in (congrArg (fun z => runF z 1 6) cc_do_in)
theorem ca_instruction_in (c : SaysX tb gl fn w K) (T : TbOk w K mg tb gl) : Cal P w K mg base 5 "instruction_in" 1 f_instruction_in :=
  cal_of c T 16 rfl (by simp [gl]) sc_instruction_in (fun fd F => F.bindsN fun _ _ _ _ _ _ us hl => match us, hl with | [_], _ => rfl) (Cals.cons ((ca_number_in c T).mono (by omega)) (Cals.cons ((ca_kind_in c T).mono (by omega)) (Cals.cons ((ca_do_in c T).mono (by omega)) Cals.nil))) f_instruction_in (congrArg (fun z => runF z 1 4) cc_instruction_in)
theorem ca_read_code (c : SaysX tb gl fn w K) (T : TbOk w K mg tb gl) : Cal P w K mg base 6 "read_code" 2 f_read_code :=
  cal_of c T 17 rfl (by simp [gl]) sc_read_code (fun fd F => F.bindsN fun _ _ _ _ _ _ us hl => match us, hl with | [_, _], _ => rfl) (Cals.cons ((ca_check_code c T).mono (by omega)) (Cals.cons ((ca_instruction_in c T).mono (by omega)) (Cals.cons ((ca_check_machine c T).mono (by omega)) Cals.nil))) f_read_code (congrArg (fun z => runF z 2 5) cc_read_code)
theorem ca__law_told (c : SaysX tb gl fn w K) (T : TbOk w K mg tb gl) : Cal P w K mg base 7 "_law_told" 2 f__law_told :=
  cal_of c T 18 rfl (by simp [gl]) sc__law_told (fun fd F => F.bindsN fun _ _ _ _ _ _ us hl => match us, hl with | [_, _], _ => rfl) (Cals.cons ((ca_read_code c T).mono (by omega)) Cals.nil) f__law_told (congrArg (fun z => runF z 2 4) cc__law_told)
theorem ca_line_of (c : SaysX tb gl fn w K) (T : TbOk w K mg tb gl) : Cal P w K mg base 1 "line_of" 1 f_line_of :=
  cal_of c T 19 rfl (by simp [gl]) sc_line_of (fun fd F => F.bindsN fun _ _ _ _ _ _ us hl => match us, hl with | [_], _ => rfl) Cals.nil f_line_of (congrArg (fun z => runF z 1 4) cc_line_of)
theorem ca_write_code (c : SaysX tb gl fn w K) (T : TbOk w K mg tb gl) : Cal P w K mg base 6 "write_code" 2 f_write_code :=
  cal_of c T 20 rfl (by simp [gl]) sc_write_code (fun fd F => F.bindsN fun _ _ _ _ _ _ us hl => match us, hl with | [_, _], _ => rfl) (Cals.cons ((ca_line_of c T).mono (by omega)) (Cals.cons ((ca_check_code c T).mono (by omega)) Cals.nil)) f_write_code (congrArg (fun z => runF z 2 3) cc_write_code)
theorem ca__law_take (c : SaysX tb gl fn w K) (T : TbOk w K mg tb gl) : Cal P w K mg base 1 "_law_take" 2 f__law_take :=
  cal_of c T 21 rfl (by simp [gl]) sc__law_take (fun fd F => F.bindsN fun _ _ _ _ _ _ us hl => match us, hl with | [_, _], _ => rfl) Cals.nil f__law_take (congrArg (fun z => runF z 2 4) cc__law_take)
theorem ca__law_bent (c : SaysX tb gl fn w K) (T : TbOk w K mg tb gl) : Cal P w K mg base 2 "_law_bent" 2 f__law_bent :=
  cal_of c T 22 rfl (by simp [gl]) sc__law_bent (fun fd F => F.bindsN fun _ _ _ _ _ _ us hl => match us, hl with | [_, _], _ => rfl) (Cals.cons ((ca__law_take c T).mono (by omega)) Cals.nil) f__law_bent (congrArg (fun z => runF z 2 9) cc__law_bent)
theorem ca__law_line (c : SaysX tb gl fn w K) (T : TbOk w K mg tb gl) : Cal P w K mg base 1 "_law_line" 1 f__law_line :=
  cal_of c T 23 rfl (by simp [gl]) sc__law_line (fun fd F => F.bindsN fun _ _ _ _ _ _ us hl => match us, hl with | [_], _ => rfl) Cals.nil f__law_line (congrArg (fun z => runF z 1 4) cc__law_line)
theorem ca__law_signed (c : SaysX tb gl fn w K) (T : TbOk w K mg tb gl) : Cal P w K mg base 2 "_law_signed" 2 f__law_signed :=
  cal_of c T 24 rfl (by simp [gl]) sc__law_signed (fun fd F => F.bindsN fun _ _ _ _ _ _ us hl => match us, hl with | [_, _], _ => rfl) (Cals.cons ((ca__law_take c T).mono (by omega)) Cals.nil) f__law_signed (congrArg (fun z => runF z 2 2) cc__law_signed)
theorem ca__law_transfer (c : SaysX tb gl fn w K) (T : TbOk w K mg tb gl) : Cal P w K mg base 2 "_law_transfer" 2 f__law_transfer :=
  cal_of c T 25 rfl (by simp [gl]) sc__law_transfer (fun fd F => F.bindsN fun _ _ _ _ _ _ us hl => match us, hl with | [_, _], _ => rfl) (Cals.cons ((ca__law_take c T).mono (by omega)) Cals.nil) f__law_transfer (congrArg (fun z => runF z 2 5) cc__law_transfer)
theorem ca__law_info_of (c : SaysX tb gl fn w K) (T : TbOk w K mg tb gl) : Cal P w K mg base 3 "_law_info_of" 2 f__law_info_of :=
  cal_of c T 26 rfl (by simp [gl]) sc__law_info_of (fun fd F => F.bindsN fun _ _ _ _ _ _ us hl => match us, hl with | [_, _], _ => rfl) (Cals.cons ((ca__law_take c T).mono (by omega)) (Cals.cons ((ca__law_signed c T).mono (by omega)) Cals.nil)) f__law_info_of (congrArg (fun z => runF z 2 3) cc__law_info_of)
theorem ca__law_do (c : SaysX tb gl fn w K) (T : TbOk w K mg tb gl) : Cal P w K mg base 4 "_law_do" 2 f__law_do :=
  cal_of c T 27 rfl (by simp [gl]) sc__law_do (fun fd F => F.bindsN fun _ _ _ _ _ _ us hl => match us, hl with | [_, _], _ => rfl) (Cals.cons ((ca__law_info_of c T).mono (by omega)) (Cals.cons ((ca__law_take c T).mono (by omega)) Cals.nil)) f__law_do (congrArg (fun z => runF z 2 6) cc__law_do)
theorem ca__law_instruction (c : SaysX tb gl fn w K) (T : TbOk w K mg tb gl) : Cal P w K mg base 5 "_law_instruction" 2 f__law_instruction :=
  cal_of c T 28 rfl (by simp [gl]) sc__law_instruction (fun fd F => F.bindsN fun _ _ _ _ _ _ us hl => match us, hl with | [_, _], _ => rfl) (Cals.cons ((ca__law_take c T).mono (by omega)) (Cals.cons ((ca__law_transfer c T).mono (by omega)) (Cals.cons ((ca__law_do c T).mono (by omega)) (Cals.cons ((ca__law_signed c T).mono (by omega)) Cals.nil)))) f__law_instruction (congrArg (fun z => runF z 2 5) cc__law_instruction)
theorem cg__law_block (c : SaysX tb gl fn w K) (T : TbOk w K mg tb gl) : ∀ k : Nat, Cal P w K mg base (5 + k) "_law_block" 4 (f__law_block k)
  | 0 => cal_none (ps := ["d", "machine", "depth", "many"]) c T 29 rfl (by simp [gl]) (fun fd F => F.bindsN fun _ _ _ _ _ _ us hl => match us, hl with | [_, _, _, _], _ => rfl)
  | k + 1 => by
    have h__law_block := cg__law_block c T k
    exact cal_of c T 29 rfl (by simp [gl]) sc__law_block (fun fd F => F.bindsN fun _ _ _ _ _ _ us hl => match us, hl with | [_, _, _, _], _ => rfl) (Cals.cons (h__law_block) (Cals.cons ((ca__law_take c T).mono (by omega)) (Cals.cons ((ca__law_signed c T).mono (by omega)) (Cals.cons ((ca__law_instruction c T).mono (by omega)) Cals.nil)))) (f__law_block (k + 1)) (congrArg (fun z => runF z 4 9) (cc__law_block k (f__law_block k)))
theorem ca__law_block (k : Nat) (c : SaysX tb gl fn w K) (T : TbOk w K mg tb gl) : Cal P w K mg base (5 + k) "_law_block" 4 (f__law_block k) := cg__law_block c T k
theorem ca__law_machine (c : SaysX tb gl fn w K) (T : TbOk w K mg tb gl) : Cal P w K mg base 2 "_law_machine" 1 f__law_machine :=
  cal_of c T 30 rfl (by simp [gl]) sc__law_machine (fun fd F => F.bindsN fun _ _ _ _ _ _ us hl => match us, hl with | [_], _ => rfl) (Cals.cons ((ca__law_take c T).mono (by omega)) Cals.nil) f__law_machine (congrArg (fun z => runF z 1 2) cc__law_machine)
theorem ca__law_begin (c : SaysX tb gl fn w K) (T : TbOk w K mg tb gl) : Cal P w K mg base 1 "_law_begin" 1 f__law_begin :=
  cal_of c T 31 rfl (by simp [gl]) sc__law_begin (fun fd F => F.bindsN fun _ _ _ _ _ _ us hl => match us, hl with | [_], _ => rfl) Cals.nil f__law_begin (congrArg (fun z => runF z 1 3) cc__law_begin)
theorem law_is (c : SaysX tb gl fn w K) (T : TbOk w K mg tb gl) : LawOk P w K mg 18 f_law :=
  law_of c T 32 rfl (by simp [gl]) sc_law (fun fd F => F.bindsA (ps := ["script"]) fun _ _ _ _ _ _ us hl => match us, hl with | [_], _ => rfl) (fun base => (Cals.cons ((ca__law_told c T).mono (by omega)) (Cals.cons ((ca_write_code c T).mono (by omega)) (Cals.cons ((ca__law_bent c T).mono (by omega)) (Cals.cons ((ca_read_code c T).mono (by omega)) (Cals.cons ((ca__law_line c T).mono (by omega)) (Cals.cons ((ca__law_block 12 c T).mono (by omega)) (Cals.cons ((ca__law_take c T).mono (by omega)) (Cals.cons ((ca__law_machine c T).mono (by omega)) (Cals.cons ((ca__law_begin c T).mono (by omega)) Cals.nil)))))))))) f_law (congrArg (fun z => runF z 1 10) cc_law)
end
def nms : List Str := [("steps_in" : Str), ("fits_width" : Str), ("loop_in_range" : Str), ("fields_in_range" : Str), ("own_in_range" : Str), ("in_range" : Str), ("check_skip" : Str), ("depths_of" : Str), ("well_formed" : Str), ("check_machine" : Str), ("check_code" : Str), ("read_integer" : Str), ("number_in" : Str), ("kind_in" : Str), ("group_in" : Str), ("do_in" : Str), ("instruction_in" : Str), ("read_code" : Str), ("_law_told" : Str), ("line_of" : Str), ("write_code" : Str), ("_law_take" : Str), ("_law_bent" : Str), ("_law_line" : Str), ("_law_signed" : Str), ("_law_transfer" : Str), ("_law_info_of" : Str), ("_law_do" : Str), ("_law_instruction" : Str), ("_law_block" : Str), ("_law_machine" : Str), ("_law_begin" : Str), ("law" : Str), ("TensorError" : Str), ("TextError" : Str), ("TooLarge" : Str), ("RangeError" : Str), ("FormError" : Str), ("MachineError" : Str), ("EXECUTION_LIMIT" : Str), ("NEST_LIMIT" : Str), ("CODE_LIMIT" : Str), ("WIDEST" : Str), ("POINTWISE" : Str), ("LIMITS" : Str), ("FIGURE_LIMIT" : Str), ("FIGURES" : Str), ("OFFSETS" : Str), ("SLOTS" : Str), ("ARGS" : Str), ("FIELDS" : Str), ("LENGTHS" : Str)]
abbrev hk : PySem.W.Hook := hookY nms 5 tb gl fn
end Lk47

/-! More steps: methods, slices, loops over cells, lists of numbers. -/
namespace Dy
open PySem PySem.Spec PyProof.Rows L2
section
variable {e e1 : Dy.Env} {h h1 : PH} {b : SM} {c : Str} {d : D} {ds xs : List D} {t : Tgt} {l n i : Nat} {s : Str} {k : Int}
/-! ### methods -/
def isLst (o : Option Cell) : Bool := match o with
  | some (.lst _) => true
  | _ => false
@[simp] theorem isLst_1 : isLst (some (.lst ds)) = true := rfl
theorem tyOk_ref : tyOk "list" h (.ref n) = isLst (h.at n) := by
  show (match h.cs[n]? with | some (.lst _) => ("list" : String) == "list" | some (.dict _) => ("list" : String) == "dict" | _ => false) = _
  rw [PH.at_eq]
  unfold isLst
  cases h.cs[n]? with
  | none => rfl
  | some c => cases c <;> first | rfl | exact (by decide +kernel)
def Res.m1 (r : Res D) (T : String) (f : D → List D → PH → Res D) (a : AM) (e : Dy.Env) : Res D := r.bind fun x h1 => if tyOk T h1 x = true then (a e h1).bind fun xs h2 => f x xs h2 else .stuck
def Res.m2 (r : Res (List D)) (f : D → List D → PH → Res D) (d : D) : Res D := r.bind (f d)
@[simp] theorem mtE_fr {T : String} {f : D → List D → PH → Res D} {o : EM} {a : AM} : mtE T f o a e h = (o e h).m1 T f a e := rfl
@[simp] theorem m1_ref {f : D → List D → PH → Res D} {a : AM} : (Res.ok (.ref n) h).m1 "list" f a e = if isLst (h.at n) = true then (a e h).m2 f (.ref n) else .stuck := by
  rw [← tyOk_ref]; rfl
def isDct (o : Option Cell) : Bool := match o with
  | some (.dict _) => true
  | _ => false
theorem tyOk_refD : tyOk "dict" h (.ref n) = isDct (h.at n) := by
  show (match h.cs[n]? with | some (.lst _) => ("dict" : String) == "list" | some (.dict _) => ("dict" : String) == "dict" | _ => false) = _
  rw [PH.at_eq]
  unfold isDct
  cases h.cs[n]? with
  | none => rfl
  | some c => cases c <;> first | rfl | exact (by decide +kernel)
@[simp] theorem m1_refD {f : D → List D → PH → Res D} {a : AM} : (Res.ok (.ref n) h).m1 "dict" f a e = if isDct (h.at n) = true then (a e h).m2 f (.ref n) else .stuck := by
  rw [← tyOk_refD]; rfl
theorem dget_ap {kvs : List (L2.Key × D)} {y z : D} {k : L2.Key} (q : h.at n = some (.dict kvs)) (hk : keyD y = some k) : dgetF (.ref n) [y, z] h = .ok ((dGetL kvs k).getD z) h := by
  show (match h.at n with | some (.dict kvs) => (match keyD y with | some k => Res.ok ((dGetL kvs k).getD z) h | none => .stuck) | _ => .stuck) = _
  rw [q]
  simp only [hk]
@[simp] theorem raise1S_ap {c : Str} {m : EM} : raise1S c m e h = (m e h).bindS e fun _ h1 => .exc c e h1 := rfl
@[simp] theorem m1_str {f : D → List D → PH → Res D} {a : AM} : (Res.ok (.str s) h).m1 "str" f a e = (a e h).m2 f (.str s) := by
  have q : tyOk "str" h (.str s) = true := by show (("str" : String) == "str") = true; decide +kernel
  show (if tyOk "str" h (.str s) = true then (a e h).bind (fun xs h2 => f (.str s) xs h2) else .stuck) = _
  rw [if_pos q]; rfl
@[simp] theorem m2_ok {f : D → List D → PH → Res D} : (Res.ok ds h).m2 f d = f d ds h := rfl
@[simp] theorem revF_refO : revF (.ref n) h = withL (lstO (h.at n)) fun ds => .ok (.ref h.cs.length) (h.push (.lst ds.reverse)) := by
  unfold revF
  rw [itemsL_ref]
  cases lstO (h.at n) <;> rfl
@[simp] theorem slF_tup {lo hi : Option Int} : slF (.tup ds) lo hi h = .ok (.tup (cutD ds lo hi)) h := rfl
/-! ### numbers in lists -/
@[simp] theorem intsOf_map : ∀ ns : List Int, intsOf (ns.map D.int) = some ns
  | [] => rfl
  | n :: ns => by
    show (match intsOf (ns.map D.int) with | some l => some (n :: l) | none => none) = _
    rw [intsOf_map ns]
theorem ltF_ints {ns ms : List Int} : ltF (.tup (ns.map .int)) (.tup (ms.map .int)) h = .ok (.bl (HT.lexLt ns ms)) h := by
  show (match intsOf (ns.map D.int), intsOf (ms.map D.int) with | some ns, some ms => Res.ok (D.bl (HT.lexLt ns ms)) h | _, _ => .stuck) = _
  rw [intsOf_map, intsOf_map]
theorem lex_app {a b : List Int} {x y : Int} (q : a.length = b.length) : HT.lexLt (a ++ [x]) (b ++ [y]) = (HT.lexLt a b || (decide (a = b) && decide (x < y))) := by
  induction a generalizing b with
  | nil =>
    cases b with
    | nil =>
      show (if x = y then HT.lexLt [] [] else decide (x < y)) = _
      split
      · rename_i z; subst z; simp [HT.lexLt]
      · simp [HT.lexLt]
    | cons _ _ => cases q
  | cons u a ih =>
    cases b with
    | nil => cases q
    | cons v b =>
      have := ih (b := b) (by simpa using q)
      show (if u = v then HT.lexLt (a ++ [x]) (b ++ [y]) else decide (u < v)) = ((if u = v then HT.lexLt a b else decide (u < v)) || _)
      by_cases z : u = v
      · subst z; simp [this]
      · simp [z]
/-! ### loops over the items of any source -/
theorem forL_fold {sr : Src} {I : Nat → Dy.Env → Prop} (n : Nat)
    (step : ∀ i e, i < n → I i e → ∃ d e1 e2, sr.item i h = some (some d) ∧ tgt t d e h = some e1 ∧ b e1 h = .nxt e2 h ∧ I (i + 1) e2) (fin : sr.item n h = some none) (hl : h.cs.length ≤ l) (z : I 0 e) : ∃ e', forL t b sr l (n + 1) 0 e h = .nxt e' h ∧ I n e' := by
  refine forL_by (n := n) (Q := fun o => ∃ e', o = .nxt e' h ∧ I n e') (fun i e h' => h' = h ∧ I i e) (fun i e h' hi ⟨e0, z⟩ => ?_) (fun e h' ⟨e0, z⟩ => ?_) _ _ _ _ (by omega) (Nat.zero_le _) ⟨rfl, z⟩
  · subst e0
    obtain ⟨d, e1, e2, h1, h2, h3, h4⟩ := step i e hi z
    refine ⟨d, e1, h1, h2, ?_⟩
    rw [h3]
    exact ⟨gc_max hl, h4⟩
  · subst e0
    exact ⟨fin, e, rfl, z⟩
/-- .. values -/
theorem forV_fold {I : Nat → Dy.Env → Prop} (hl : h.cs.length ≤ l) (step : ∀ i e d, xs[i]? = some d → I i e → ∃ e1 e2, tgt t d e h = some e1 ∧ b e1 h = .nxt e2 h ∧ I (i + 1) e2) (z : I 0 e) : ∃ e', forV t b l xs e h = .nxt e' h ∧ I xs.length e' := by
  have w := forL_fold (t := t) (b := b) (sr := .vals xs) (I := I) (h := h) (e := e) (l := l) xs.length (fun i e hi z => by
    have e0 : xs[i]? = some xs[i] := List.getElem?_eq_getElem hi
    obtain ⟨e1, e2, h1, h2, h3⟩ := step i e _ e0 z
    exact ⟨_, e1, e2, by rw [item_vals, e0], h1, h2, h3⟩) (by rw [item_vals, List.getElem?_eq_none (by omega)]) hl z
  rw [forL_forV _ _ _ _ (by omega) (by omega)] at w
  exact w
/-- .. a cell's items, which the turns leave as they are -/
theorem lp_cellO : (Res.ok (.ref n) h).bind srcF = withL (α := Src) (lstO (h.at n)) (fun _ => .ok (.cell n) h) := by
  show (match h.cs[n]? with | some (.lst _) => Res.ok (Src.cell n) h | _ => .stuck) = _
  rw [PH.at_eq]
  cases e : h.cs[n]? with
  | none => rfl
  | some c => cases c <;> rfl
@[simp] theorem srcF_ref : srcF (.ref n) h = withL (α := Src) (lstO (h.at n)) (fun _ => .ok (.cell n) h) := lp_cellO
theorem lp_cell_fold {I : Nat → Dy.Env → Prop} (hc : h.at n = some (.lst xs)) (step : ∀ i e d, xs[i]? = some d → I i e → ∃ e1 e2, tgt t d e h = some e1 ∧ b e1 h = .nxt e2 h ∧ I (i + 1) e2) (z : I 0 e) : ∃ e', (Res.ok (.cell n) h).lp t b e = .nxt e' h ∧ I xs.length e' := by
  rw [PH.at_eq] at hc
  have f : (Src.cell n).fuel h = xs.length + 1 := by
    show (match h.cs[n]? with | some (.lst ds) => ds.length + 1 | _ => 0) = _
    rw [hc]
  have w := forL_fold (t := t) (b := b) (sr := .cell n) (I := I) (h := h) (e := e) (l := h.cs.length) xs.length (fun i e hi z => by
    have e0 : xs[i]? = some xs[i] := List.getElem?_eq_getElem hi
    obtain ⟨e1, e2, h1, h2, h3⟩ := step i e _ e0 z
    exact ⟨_, e1, e2, by rw [item_cell hc, e0], h1, h2, h3⟩) (by rw [item_cell hc, List.getElem?_eq_none (by omega)]) (Nat.le_refl _) z
  rw [lp_cell, f]
  exact w
theorem draw (q : Dst) (m : Int) (h1 : 0 < m) (h2 : m < 1000000) : ∃ r q', takeV q m = r ∧ takeQ q m = q' ∧ 0 ≤ r ∧ r < m := ⟨_, _, rfl, rfl, takeV_0, takeV_lt h1 (sm_lt (by omega) (by omega))⟩
end
end Dy

/-! Steps upon texts, told by their code points. -/
namespace Dy
open PySem PySem.Spec PyProof.Rows L2
abbrev SS (l : List Nat) : Str := ⟨l.toArray⟩
theorem SS_S (l : List Nat) : SS l = SX.S l := rfl
section
variable {a b : List Nat} {k : Int} {h : PH} {x y : Str} {e : Dy.Env}
theorem SS_len : (SS a).length = a.length := SX.S_len a
theorem SS_tl : SS x.cps.toList = x := SX.S_tl x
theorem SS_cat : SS a ++ SS b = SS (a ++ b) := SX.S_cat a b
theorem SS_eq : (SS a = SS b) = (a = b) := propext ⟨SX.S_inj, fun e => by rw [e]⟩
theorem slS_to (k0 : 0 ≤ k) (l : a.length ≤ 16777216) : slF (.str (SS a)) none (some k) h = .ok (.str (SS (a.take k.toNat))) h := by
  show (if (SS a).length ≤ 16777216 then Res.ok (D.str (cutS (SS a) none (some k))) h else .stuck) = _
  rw [if_pos (by rw [SS_len]; exact l)]
  have : cutS (SS a) none (some k) = SS (a.take k.toNat) := by
    unfold cutS
    rw [SS_len]
    obtain ⟨m, rfl⟩ := Int.eq_ofNat_of_zero_le k0
    rw [HT.sIx_none, HT.sIx_nat, Int.toNat_natCast]
    show SS ((a.drop 0).take (min m a.length - 0)) = _
    rw [List.drop_zero, Nat.sub_zero]
    congr 1
    by_cases c : m ≤ a.length
    · rw [Nat.min_eq_left c]
    · rw [Nat.min_eq_right (by omega), List.take_of_length_le (by omega), List.take_of_length_le (by omega)]
  rw [this]
theorem slS_from (k0 : 0 ≤ k) (l : a.length ≤ 16777216) : slF (.str (SS a)) (some k) none h = .ok (.str (SS (a.drop k.toNat))) h := by
  show (if (SS a).length ≤ 16777216 then Res.ok (D.str (cutS (SS a) (some k) none)) h else .stuck) = _
  rw [if_pos (by rw [SS_len]; exact l)]
  have : cutS (SS a) (some k) none = SS (a.drop k.toNat) := by
    unfold cutS
    rw [SS_len]
    obtain ⟨m, rfl⟩ := Int.eq_ofNat_of_zero_le k0
    rw [HT.sIx_none, HT.sIx_nat, Int.toNat_natCast]
    show SS ((a.drop (min m a.length)).take (a.length - min m a.length)) = _
    congr 1
    by_cases c : m ≤ a.length
    · rw [Nat.min_eq_left c, List.take_of_length_le (by rw [List.length_drop]; omega)]
    · rw [Nat.min_eq_right (by omega), List.drop_eq_nil_of_le (Nat.le_refl _), List.drop_eq_nil_of_le (by omega), List.take_nil]
  rw [this]
theorem addS (l : a.length + b.length ≤ 16777216) : addF (.str (SS a)) (.str (SS b)) h = .ok (.str (SS (a ++ b))) h := by
  show (if (SS a).length + (SS b).length ≤ 16777216 then Res.ok (D.str (SS a ++ SS b)) h else .stuck) = _
  rw [if_pos (by rw [SS_len, SS_len]; exact l), SS_cat]
theorem lenS (l : a.length ≤ 16777216) : lenF (.str (SS a)) h = .ok (.int (a.length : Int)) h := by
  rw [lenF_str (by rw [SS_len]; exact l), SS_len]
theorem eqS : eqF (.str (SS a)) (.str (SS b)) h = .ok (.bl (decide (a = b))) h := by
  rw [eqF_str]
  simp only [SS_eq]
theorem neS : neF (.str (SS a)) (.str (SS b)) h = .ok (.bl (!decide (a = b))) h := by
  rw [neF_str]
  simp only [SS_eq]
theorem ixS {c : Nat} (q : a[k.toNat]? = some c) (k0 : 0 ≤ k) (l : a.length ≤ 16777216) : ixF (.str (SS a)) (.int k) h = .ok (.str (SS [c])) h := by
  have e : ixB (.str (SS a)) (.int k) h = some (.str (SS [c])) := by
    show (if (SS a).length ≤ 16777216 then (match atI (SS a).cps.toList k with | some c => some (D.str ⟨#[c]⟩) | none => none) else none) = _
    rw [if_pos (by rw [SS_len]; exact l)]
    have : atI (SS a).cps.toList k = some c := by
      obtain ⟨m, rfl⟩ := Int.eq_ofNat_of_zero_le k0
      have hm : a[m]? = some c := q
      have lt : m < a.length := (List.getElem?_eq_some_iff.mp hm).1
      unfold L2.atI
      show (ixN a.length ((m : Nat) : Int)).bind (fun j => a[j]?) = _
      rw [ixN_nat lt]
      exact hm
    rw [this]
  unfold ixF
  rw [e]
theorem inS {c : Nat} : inF (.str (SS [c])) (.str (SS a)) h = .ok (.bl (decide (c ∈ a))) h := by
  have e : strIn (SS [c]) (SS a) = decide (c ∈ a) := SX.in_one a c
  show Res.ok (D.bl (strIn (SS [c]) (SS a))) h = _
  rw [e]
theorem notInS {c : Nat} : notInF (.str (SS [c])) (.str (SS a)) h = .ok (.bl (!decide (c ∈ a))) h := by
  have e : strIn (SS [c]) (SS a) = decide (c ∈ a) := SX.in_one a c
  show Res.ok (D.bl (!strIn (SS [c]) (SS a))) h = _
  rw [e]
theorem signsS : Dy.signs (SS a) = a.map fun c => D.str (SS [c]) := rfl
/-! ### numbers -/
def AllD (a : List Nat) : Prop := ∀ c ∈ a, 48 ≤ c ∧ c ≤ 57
instance {a : List Nat} : Decidable (AllD a) := inferInstanceAs (Decidable (∀ c ∈ a, 48 ≤ c ∧ c ≤ 57))
def valD (a : List Nat) : Nat := PySem.NumText.digitsVal a
theorem intS (d : AllD a) (ne : a ≠ []) (l : a.length ≤ 640) : intF (.str (SS a)) h = .ok (.int (valD a : Int)) h := by
  have e : PySem.intText? (SS a) = some ((valD a : Nat) : Int) := PySem.intText_digits (x := SS a) d ne (by rw [SS_len]; omega)
  show (match PySem.intText? (SS a) with | some n => if (SS a).length ≤ 640 then Res.ok (D.int n) h else .stuck | none => .stuck) = _
  rw [e]
  exact if_pos (by rw [SS_len]; exact l)
theorem intS_neg (d : AllD a) (ne : a ≠ []) (l : a.length ≤ 639) : intF (.str (SS (45 :: a))) h = .ok (.int (-(valD a : Int))) h := by
  have e : PySem.intText? (SS (45 :: a)) = some (-((valD a : Nat) : Int)) := PySem.intText_neg (x := SS (45 :: a)) rfl d ne (by rw [SS_len, List.length_cons]; omega)
  show (match PySem.intText? (SS (45 :: a)) with | some n => if (SS (45 :: a)).length ≤ 640 then Res.ok (D.int n) h else .stuck | none => .stuck) = _
  rw [e]
  exact if_pos (by rw [SS_len, List.length_cons]; omega)
theorem valD_snoc {c : Nat} : valD (a ++ [c]) = valD a * 10 + (c - 48) := by
  unfold valD PySem.NumText.digitsVal
  rw [List.foldl_append]; rfl
theorem foldl_lt : ∀ (a : List Nat) (n : Nat), AllD a → a.foldl (fun acc c => acc * 10 + (c - 48)) n < (n + 1) * 10 ^ a.length
  | [], n, _ => by simp
  | c :: r, n, d => by
    have h2 := d c List.mem_cons_self
    have := foldl_lt r (n * 10 + (c - 48)) fun x hx => d x (List.mem_cons_of_mem _ hx)
    rw [List.foldl_cons, List.length_cons, Nat.pow_succ]
    refine Nat.lt_of_lt_of_le this ?_
    rw [Nat.mul_comm (10 ^ r.length), ← Nat.mul_assoc]
    exact Nat.mul_le_mul_right _ (by omega)
theorem valD_lt (d : AllD a) : valD a < 10 ^ a.length := by
  have := foldl_lt a 0 d
  rw [Nat.zero_add, Nat.one_mul] at this
  exact this
theorem foldl_ge : ∀ (a : List Nat) (n : Nat), n * 10 ^ a.length ≤ a.foldl (fun acc c => acc * 10 + (c - 48)) n
  | [], n => by simp
  | c :: r, n => by
    have := foldl_ge r (n * 10 + (c - 48))
    rw [List.foldl_cons, List.length_cons, Nat.pow_succ]
    refine Nat.le_trans ?_ this
    rw [Nat.mul_comm (10 ^ r.length), ← Nat.mul_assoc]
    exact Nat.mul_le_mul_right _ (by omega)
theorem valD_ge {c : Nat} : (c - 48) * 10 ^ a.length ≤ valD (c :: a) := by
  have := foldl_ge a (0 * 10 + (c - 48))
  show _ ≤ a.foldl _ (0 * 10 + (c - 48))
  rw [Nat.zero_mul, Nat.zero_add] at this ⊢
  exact this
/-- the text of a number -/
def numI (i : Int) : List Nat := if i < 0 then 45 :: TL.numL i.natAbs else TL.numL i.natAbs
theorem toString_S (i : Int) : ((toString i : String) : Str) = SS (numI i) := by
  unfold numI
  by_cases c : i < 0
  · rw [if_pos c]
    obtain ⟨n, rfl⟩ : ∃ n : Nat, i = Int.negSucc n := by
      cases i with
      | ofNat n => exact absurd c (by simp)
      | negSucc n => exact ⟨n, rfl⟩
    have e1 : (toString (Int.negSucc n) : String) = "-" ++ toString ((n + 1 : Nat) : Int) := rfl
    have e2 : ∀ s t : String, Str.ofString (s ++ t) = Str.ofString s ++ Str.ofString t := fun s t => by
      rw [Str.ofString_eq_toList, Str.ofString_eq_toList, Str.ofString_eq_toList]
      show SS _ = SS _ ++ SS _
      rw [SS_cat, SS_eq]
      simp
    show Str.ofString (toString (Int.negSucc n)) = _
    rw [e1, e2, SX.num_S]
    show SS [45] ++ SS _ = _
    rw [SS_cat]; rfl
  · rw [if_neg c]
    obtain ⟨n, rfl⟩ := Int.eq_ofNat_of_zero_le (show 0 ≤ i by omega)
    exact SX.num_S n
end
end Dy

set_option exponentiation.threshold 5000
/-! Texts in words and lines, numbers in texts; heaps that grow. -/
namespace Dy
open PySem PySem.Spec PyProof.Rows L2
def bd (n : Nat) (i : Int) : Prop := i.natAbs < 2 ^ n
theorem bd_sm {n : Nat} {i : Int} (h : bd n i) (z : n ≤ 4000) : sm i := sm_of h z
theorem bd_le {m n : Nat} {i : Int} (h : bd m i) (z : m ≤ n) : bd n i := Nat.lt_of_lt_of_le h (Nat.pow_le_pow_right (by decide) z)
/-! ### numbers as words -/
def dig (w : List Nat) : List Nat := if w.take 1 = [45] then w.drop 1 else w
def wval (w : List Nat) : Int := if w.take 1 = [45] then -(valD (dig w) : Int) else (valD (dig w) : Int)
def riOk (L : Nat) (w : List Nat) : Prop := dig w ≠ [] ∧ (dig w).length ≤ L ∧ AllD (dig w) ∧ ¬ ((dig w).head? = some 48 ∧ 1 < w.length)
instance {L : Nat} {w : List Nat} : Decidable (riOk L w) := inferInstanceAs (Decidable (dig w ≠ [] ∧ (dig w).length ≤ L ∧ AllD (dig w) ∧ ¬ ((dig w).head? = some 48 ∧ 1 < w.length)))
def RI (L : Nat) (w : List Nat) : Option Int := if riOk L w then some (wval w) else none
def RN (L : Nat) (w : List Nat) : Option Int := if w.take 1 = [45] then none else RI L w
def optN : Option Int → D
  | some n => .int n
  | none => .non
theorem s_minus : ("-" : Str) = SS [45] := by decide +kernel
theorem s_zero : ("0" : Str) = SS [48] := by decide +kernel
theorem s_one : ("1" : Str) = SS [49] := by decide +kernel
theorem s_empty : ("" : Str) = SS [] := by decide +kernel
theorem s_slash : ("/" : Str) = SS [47] := by decide +kernel
theorem s_mzero : ("-0" : Str) = SS [45, 48] := by decide +kernel
theorem s_figs : ("0123456789" : Str) = SS [48, 49, 50, 51, 52, 53, 54, 55, 56, 57] := by decide +kernel
theorem figs_mem {c : Nat} : (c ∈ [48, 49, 50, 51, 52, 53, 54, 55, 56, 57]) = (48 ≤ c ∧ c ≤ 57) := by
  apply propext
  simp only [List.mem_cons, List.not_mem_nil, or_false]
  omega
theorem allD_cons {c : Nat} {r : List Nat} : AllD (c :: r) ↔ (48 ≤ c ∧ c ≤ 57) ∧ AllD r := by
  unfold AllD
  simp
theorem snoc_of {α : Type} : ∀ {l : List α}, l ≠ [] → ∃ r x, l = r ++ [x]
  | [], h => absurd rfl h
  | [x], _ => ⟨[], x, rfl⟩
  | x :: y :: r, _ => by
    obtain ⟨r', z, e⟩ := snoc_of (l := y :: r) (by simp)
    exact ⟨x :: r', z, by rw [e]; rfl⟩
def canonW (w : List Nat) : Prop := w ≠ [] ∧ AllD w ∧ ¬ (w.head? = some 48 ∧ 1 < w.length)
theorem num_back : ∀ (n : Nat) (w : List Nat), w.length = n → canonW w → TL.numL (valD w) = w := by
  intro n
  induction n with
  | zero => intro w e c; exact absurd (List.length_eq_zero_iff.mp e) c.1
  | succ n ih =>
    intro w e c
    obtain ⟨r, b, rfl⟩ := snoc_of c.1
    have hb := c.2.1 b (List.mem_append_right _ (List.mem_singleton.mpr rfl))
    rw [valD_snoc]
    cases r with
    | nil =>
      show TL.numL (0 * 10 + (b - 48)) = [b]
      rw [TL.numL_lt (by omega)]
      congr 1
      omega
    | cons x r =>
      have hx : x ≠ 48 := fun z => c.2.2 ⟨by rw [z]; rfl, by simp⟩
      have hc := c.2.1 x (by simp)
      have cr : canonW (x :: r) := ⟨by simp, fun y hy => c.2.1 y (List.mem_append_left _ hy), fun z => hx (by simpa using z.1)⟩
      have i := ih (x :: r) (by simpa using e) cr
      have ge := valD_ge (a := r) (c := x)
      have p : 1 ≤ 10 ^ r.length := Nat.pow_le_pow_right (show 0 < 10 by decide) (Nat.zero_le r.length)
      have v1 : 1 ≤ valD (x :: r) := Nat.le_trans (Nat.le_trans (by omega : 1 ≤ 1 * 1) (Nat.mul_le_mul (by omega : 1 ≤ x - 48) p)) ge
      rw [TL.numL_step (by omega), show (valD (x :: r) * 10 + (b - 48)) / 10 = valD (x :: r) by omega, show (valD (x :: r) * 10 + (b - 48)) % 10 = b - 48 by omega, i, show 48 + (b - 48) = b by omega]
theorem rn_canon {L : Nat} {w : List Nat} {v : Int} (h : RN L w = some v) : canonW w ∧ v = (valD w : Int) := by
  unfold RN at h
  by_cases c : w.take 1 = [45]
  · rw [if_pos c] at h; cases h
  · rw [if_neg c] at h
    unfold RI at h
    by_cases q : riOk L w
    · rw [if_pos q] at h
      have dg : dig w = w := if_neg c
      have q2 : wval w = (valD w : Int) := by unfold wval; rw [if_neg c, dg]
      unfold riOk at q
      rw [dg] at q
      rw [q2] at h
      exact ⟨⟨q.1, q.2.2.1, q.2.2.2⟩, by simpa using h.symm⟩
    · rw [if_neg q] at h; cases h
theorem rn_inj {L : Nat} {w w' : List Nat} {v : Int} (h : RN L w = some v) (h' : RN L w' = some v) : w = w' := by
  obtain ⟨c, e⟩ := rn_canon h
  obtain ⟨c', e'⟩ := rn_canon h'
  have : valD w = valD w' := by omega
  rw [← num_back _ w rfl c, ← num_back _ w' rfl c', this]
theorem numL_head : ∀ n : Nat, 1 ≤ n → (TL.numL n).head? ≠ some 48 := by
  intro n
  induction n using Nat.strongRecOn with
  | _ n ih =>
    intro h
    by_cases c : n < 10
    · rw [TL.numL_lt c]
      simp; omega
    · rw [TL.numL_step (by omega)]
      have := ih (n / 10) (by omega) (by omega)
      cases e : TL.numL (n / 10) with
      | nil => exact absurd e (TL.numL_ne _)
      | cons x r => rw [e] at this; exact this
theorem numL_take {n : Nat} : (TL.numL n).take 1 ≠ [45] := fun e => by
  cases q : TL.numL n with
  | nil => exact TL.numL_ne n q
  | cons x r =>
    rw [q] at e
    have : x = 45 := by simpa using e
    have := TL.numL_digits n x (by rw [q]; simp)
    omega
theorem numL_ok {L n : Nat} (l : (TL.numL n).length ≤ L) : TL.numL n ≠ [] ∧ (TL.numL n).length ≤ L ∧ AllD (TL.numL n) ∧ ¬ ((TL.numL n).head? = some 48 ∧ 1 < (TL.numL n).length) := by
  refine ⟨TL.numL_ne n, l, TL.numL_digits n, fun z => ?_⟩
  by_cases c : n = 0
  · subst c
    rw [TL.numL_lt (by omega)] at z
    simp at z
  · exact numL_head n (by omega) z.1
theorem ri_numI {L : Nat} {i : Int} (l : (TL.numL i.natAbs).length ≤ L) : RI L (numI i) = some i := by
  unfold RI numI
  by_cases c : i < 0
  · rw [if_pos c]
    have d : dig (45 :: TL.numL i.natAbs) = TL.numL i.natAbs := rfl
    have w : wval (45 :: TL.numL i.natAbs) = i := by
      unfold wval
      rw [if_pos (show (45 :: TL.numL i.natAbs).take 1 = [45] from rfl), d, show valD (TL.numL i.natAbs) = i.natAbs from TL.numL_val _]
      omega
    have ok : riOk L (45 :: TL.numL i.natAbs) := by
      obtain ⟨h1, h2, h3, h4⟩ := numL_ok l
      unfold riOk
      rw [d]
      exact ⟨h1, h2, h3, fun z => numL_head i.natAbs (by omega) z.1⟩
    rw [if_pos ok, w]
  · rw [if_neg c]
    have d : dig (TL.numL i.natAbs) = TL.numL i.natAbs := if_neg numL_take
    have w : wval (TL.numL i.natAbs) = i := by
      unfold wval
      rw [if_neg numL_take, d, show valD (TL.numL i.natAbs) = i.natAbs from TL.numL_val _]
      omega
    have ok : riOk L (TL.numL i.natAbs) := by
      unfold riOk
      rw [d]
      exact numL_ok l
    rw [if_pos ok, w]
theorem rn_numI {L : Nat} {i : Int} (h : 0 ≤ i) (l : (TL.numL i.natAbs).length ≤ L) : RN L (numI i) = some i := by
  have e := ri_numI l
  unfold RN
  rw [if_neg, e]
  unfold numI
  rw [if_neg (by omega)]
  exact numL_take
section
variable {s : Nat}
/-! ### words -/
def parts (s : Nat) (a : List Nat) : List (List Nat) := TL.spl [s] 0 [] a
theorem parts_is {a : List Nat} (hs : s < 256) : Txt.split (SS a) (SS [s]) = (parts s a).map SS := SX.split_S (by simp) (by simpa using hs)
abbrev J (s : Nat) (ps : List (List Nat)) : List Nat := TL.joinL [s] ps
theorem spl_cons {acc r : List Nat} {c : Nat} : TL.spl [s] 0 acc (c :: r) = if c = s then acc :: TL.spl [s] 0 [] r else TL.spl [s] 0 (acc ++ [c]) r := by
  show (if TL.pre [s] (c :: r) = true then acc :: TL.spl [s] ([s].length - 1) [] r else TL.spl [s] 0 (acc ++ [c]) r) = _
  have e : TL.pre [s] (c :: r) = decide (c = s) := by
    unfold TL.pre
    show ([c] == [s]) = _
    by_cases q : c = s
    · subst q; simp
    · rw [decide_eq_false q]
      simp [q]
  rw [e]
  by_cases q : c = s
  · rw [decide_eq_true q, if_pos rfl, if_pos q]; rfl
  · rw [decide_eq_false q, if_neg (by simp), if_neg q]
theorem J_cons {p : List Nat} {ps : List (List Nat)} (h : ps ≠ []) : J s (p :: ps) = p ++ (s :: J s ps) := by
  cases ps with
  | nil => exact absurd rfl h
  | cons q r => rfl
theorem spl_ne : ∀ (a acc : List Nat), TL.spl [s] 0 acc a ≠ []
  | [], acc => by rw [TL.spl_nil]; simp
  | c :: r, acc => by
    rw [spl_cons]
    split
    · simp
    · exact spl_ne r _
theorem spl_facts : ∀ (a acc : List Nat), s ∉ acc → (∀ p ∈ TL.spl [s] 0 acc a, s ∉ p) ∧ J s (TL.spl [s] 0 acc a) = acc ++ a ∧ (TL.spl [s] 0 acc a).length = 1 + a.count s
  | [], acc, h => by
    rw [TL.spl_nil]
    exact ⟨fun p hp => by rw [List.mem_singleton.mp hp]; exact h, by show acc = acc ++ []; rw [List.append_nil], rfl⟩
  | c :: r, acc, h => by
    rw [spl_cons]
    by_cases q : c = s
    · obtain ⟨h1, h2, h3⟩ := spl_facts r [] (by simp)
      rw [if_pos q]
      refine ⟨fun p hp => ?_, ?_, ?_⟩
      · rcases List.mem_cons.mp hp with e | e
        · rw [e]; exact h
        · exact h1 p e
      · rw [J_cons (spl_ne r []), h2, q, List.nil_append]
      · rw [List.length_cons, h3, q, List.count_cons_self]; omega
    · obtain ⟨h1, h2, h3⟩ := spl_facts r (acc ++ [c]) (by
        intro z
        rcases List.mem_append.mp z with z | z
        · exact h z
        · exact q (List.mem_singleton.mp z).symm)
      rw [if_neg q]
      refine ⟨h1, by rw [h2, List.append_assoc]; rfl, ?_⟩
      rw [h3, List.count_cons_of_ne q]
theorem parts_free {a p : List Nat} (h : p ∈ parts s a) : s ∉ p := (spl_facts a [] (by simp)).1 p h
theorem parts_J {a : List Nat} : J s (parts s a) = a := (spl_facts a [] (by simp)).2.1
theorem parts_count {a : List Nat} : (parts s a).length = 1 + a.count s := (spl_facts a [] (by simp)).2.2
theorem J_parts s {ps : List (List Nat)} (ne : ps ≠ []) (h : ∀ p ∈ ps, s ∉ p) : parts s (J s ps) = ps := SX.spl_join (c := s) (sep := []) ne h
theorem J_snoc : ∀ {ps : List (List Nat)} {x : List Nat}, ps ≠ [] → J s (ps ++ [x]) = J s ps ++ (s :: x)
  | [], _, h => absurd rfl h
  | [p], x, _ => rfl
  | p :: q :: r, x, _ => by
    rw [List.cons_append, J_cons (by simp), J_cons (ps := q :: r) (by simp), J_snoc (ps := q :: r) (by simp), List.append_assoc]; rfl
theorem J_app : ∀ {ps qs : List (List Nat)}, ps ≠ [] → qs ≠ [] → J s (ps ++ qs) = J s ps ++ (s :: J s qs)
  | [], _, h, _ => absurd rfl h
  | [p], qs, _, k => by rw [List.singleton_append, J_cons k]; rfl
  | p :: q :: r, qs, _, k => by
    rw [List.cons_append, J_cons (by simp), J_cons (ps := q :: r) (by simp), J_app (ps := q :: r) (by simp) k, List.append_assoc]; rfl
theorem J_len : ∀ {ps : List (List Nat)}, ps ≠ [] → (J s ps).length + 1 = (ps.map (·.length)).sum + ps.length
  | [], h => absurd rfl h
  | [p], _ => by show p.length + 1 = [p.length].sum + 1; simp
  | p :: q :: r, _ => by
    have := J_len (ps := q :: r) (by simp)
    rw [J_cons (by simp), List.length_append, List.length_cons]
    rw [List.map_cons, List.sum_cons, List.length_cons]
    omega
theorem mem_J : ∀ {ps : List (List Nat)} {p : List Nat} {c : Nat}, p ∈ ps → c ∈ p → c ∈ J s ps
  | [], p, c, h, _ => by cases h
  | [q], p, c, h, k => by
    rw [List.mem_singleton.mp h] at k; exact k
  | q :: q' :: r, p, c, h, k => by
    rw [J_cons (by simp)]
    rcases List.mem_cons.mp h with e | e
    · subst e; exact List.mem_append_left _ k
    · exact List.mem_append_right _ (List.mem_cons_of_mem _ (mem_J e k))
end
/-! ### heaps that grow -/
section
variable {h : PH} {c : Cell} {n k : Nat}
theorem push_at : (h.push c).at h.cs.length = some c := by
  show (h.cs ++ [c])[h.cs.length]? = _
  rw [List.getElem?_append_right (Nat.le_refl _), Nat.sub_self]; rfl
theorem push_lt (q : n < h.cs.length) : (h.push c).at n = h.at n := by
  show (h.cs ++ [c])[n]? = h.cs[n]?
  rw [List.getElem?_append_left q]
theorem push_len : (h.push c).cs.length = h.cs.length + 1 := by
  show (h.cs ++ [c]).length = _
  rw [List.length_append]; rfl
theorem push_lim : (h.push c).lim = h.lim := rfl
theorem push_cut (q : k ≤ h.cs.length) : (h.push c).cut k = h.cut k := by
  show PH.mk ((h.cs ++ [c]).take k) _ = PH.mk (h.cs.take k) _
  rw [List.take_append_of_le_length q]; rfl
theorem cut_len : h.cut h.cs.length = h := cut_ge (Nat.le_refl _)
end
def Grow (h X : PH) : Prop := ∃ g, X = ⟨h.cs ++ g, h.lim⟩
theorem Grow.refl {h : PH} : Grow h h := ⟨[], by rw [List.append_nil]⟩
theorem Grow.trans {h X Y : PH} (a : Grow h X) (b : Grow X Y) : Grow h Y := by
  obtain ⟨g, rfl⟩ := a
  obtain ⟨g', rfl⟩ := b
  exact ⟨g ++ g', by rw [← List.append_assoc]⟩
theorem Grow.push {h X : PH} (a : Grow h X) (c : Cell) : Grow h (X.push c) := a.trans ⟨[c], rfl⟩
theorem Grow.le {h X : PH} (a : Grow h X) : h.cs.length ≤ X.cs.length := by
  obtain ⟨g, rfl⟩ := a
  show _ ≤ (h.cs ++ g).length
  rw [List.length_append]; omega
theorem Grow.lim {h X : PH} (a : Grow h X) : X.lim = h.lim := by
  obtain ⟨g, rfl⟩ := a; rfl
theorem Grow.at_ {h X : PH} (a : Grow h X) {n : Nat} (q : n < h.cs.length) : X.at n = h.at n := by
  obtain ⟨g, rfl⟩ := a
  show (h.cs ++ g)[n]? = h.cs[n]?
  rw [List.getElem?_append_left q]
theorem Grow.cut {h X : PH} (a : Grow h X) {k : Nat} (q : k ≤ h.cs.length) : X.cut k = h.cut k := by
  obtain ⟨g, rfl⟩ := a
  show PH.mk ((h.cs ++ g).take k) _ = PH.mk (h.cs.take k) _
  rw [List.take_append_of_le_length q]
theorem Grow.back {h X : PH} (a : Grow h X) : X.cut h.cs.length = h := by rw [a.cut (Nat.le_refl _), cut_len]
theorem Grow.ok {h X : PH} (a : Grow h X) (hl : h.lim ≤ h.cs.length) : X.lim ≤ X.cs.length := by rw [a.lim]; exact Nat.le_trans hl a.le
theorem at_lt {h : PH} {n : Nat} {c : Cell} (q : h.at n = some c) : n < h.cs.length := (List.getElem?_eq_some_iff.mp (show h.cs[n]? = some c from q)).1
theorem ret_last {X : PH} {c : Cell} {N : Nat} : (Out.ret (.ref X.cs.length) (X.push c)).fin N = .ok (.ref X.cs.length) (X.push c) := by
  rw [fin_ret, cut_ge]
  rw [push_len, mr_ref]; omega
theorem mrE_ge {e : Dy.Env} {i : Nat} {d : D} (h : e[i]? = some (some d)) : d.mr ≤ mrE e := by
  induction e generalizing i with
  | nil => cases h
  | cons x r ih =>
    cases i with
    | zero =>
      have h' : x = some d := Option.some.inj h
      subst h'
      show d.mr ≤ max d.mr (mrE r)
      omega
    | succ i =>
      have := ih (i := i) h
      cases x with
      | none => exact this
      | some y => show d.mr ≤ max y.mr (mrE r); omega
theorem ladd_ap {h : PH} {m n : Nat} {xs ys : List D} (hm : h.at m = some (.lst xs)) (hn : h.at n = some (.lst ys)) (l : xs.length + ys.length ≤ 16777216) : addF (.ref m) (.ref n) h = .ok (.ref h.cs.length) (h.push (.lst (xs ++ ys))) := by
  have e1 : refLst h (.ref m) = some (m, xs) := by
    show (match h.cs[m]? with | some (.lst ds) => some (m, ds) | _ => none) = _
    have : h.cs[m]? = some (.lst xs) := hm
    rw [this]
  have e2 : refLst h (.ref n) = some (n, ys) := by
    show (match h.cs[n]? with | some (.lst ds) => some (n, ds) | _ => none) = _
    have : h.cs[n]? = some (.lst ys) := hn
    rw [this]
  show lAdd (.ref m) (.ref n) h = _
  unfold lAdd
  rw [e1, e2]
  show (if xs.length + ys.length ≤ 16777216 then newL (xs ++ ys) h else .stuck) = _
  rw [if_pos l]; rfl
theorem app_ap {h : PH} {n : Nat} {ds : List D} {d : D} (hn : h.at n = some (.lst ds)) (l : ds.length < 16777216) : appF (.ref n) [d] h = .ok .non (h.put n (.lst (ds ++ [d]))) := by
  rw [appF_refO, hn]
  show (if ds.length < 16777216 then Res.ok D.non (h.put n (.lst (ds ++ [d]))) else .stuck) = _
  rw [if_pos l]
theorem is_lst {h : PH} {n : Nat} {ds : List D} (hn : h.at n = some (.lst ds)) : isLst (h.at n) = true := by rw [hn]; rfl
theorem sl_ref {n : Nat} {ds : List D} {lo hi : Option Int} {h : PH} (hn : h.at n = some (.lst ds)) : slF (.ref n) lo hi h = .ok (.ref h.cs.length) (h.push (.lst (Dy.cutD ds lo hi))) := by
  show (match itemsL h (.ref n) with | some ds => newL (Dy.cutD ds lo hi) h | none => .stuck) = _
  rw [itemsL_ref, hn]; rfl
theorem push_put1 {h : PH} {a c : Cell} (z : c.mr ≤ h.cs.length) : (h.push a).put h.cs.length c = h.push c := by
  unfold PH.put
  rw [if_pos z]
  show PH.mk ((h.cs ++ [a]).set h.cs.length c) _ = PH.mk (h.cs ++ [c]) _
  rw [List.set_append_right _ _ (Nat.le_refl _), Nat.sub_self]
  rfl
theorem gc_last {X : PH} {c : Cell} {l i : Nat} {e : Dy.Env} (h : e[i]? = some (some (.ref X.cs.length))) : (X.push c).gc l e = X.push c := by
  have g : X.cs.length + 1 ≤ mrE e := mrE_ge h
  unfold PH.gc
  exact cut_ge (by rw [push_len]; omega)
def mid (h : PH) (c : Cell) (g : List Cell) : PH := ⟨h.cs ++ [c] ++ g, h.lim⟩
theorem mid_at {h : PH} {c : Cell} {g : List Cell} : (mid h c g).at h.cs.length = some c := by
  show (h.cs ++ [c] ++ g)[h.cs.length]? = _
  rw [List.append_assoc, List.getElem?_append_right (Nat.le_refl _), Nat.sub_self]; rfl
theorem mid_up {h : PH} {c : Cell} {g : List Cell} {n : Nat} : (mid h c g).at (h.cs.length + 1 + n) = g[n]? := by
  show (h.cs ++ [c] ++ g)[h.cs.length + 1 + n]? = _
  have e : (h.cs ++ [c]).length = h.cs.length + 1 := by rw [List.length_append]; rfl
  rw [List.getElem?_append_right (by omega), e]
  congr 1
  omega
theorem mid_put {h : PH} {c c' : Cell} {g : List Cell} (z : c'.mr ≤ h.cs.length) : (mid h c g).put h.cs.length c' = mid h c' g := by
  unfold PH.put
  rw [if_pos z]
  show PH.mk ((h.cs ++ [c] ++ g).set h.cs.length c') _ = PH.mk (h.cs ++ [c'] ++ g) _
  rw [List.append_assoc, List.append_assoc, List.set_append_right _ _ (Nat.le_refl _), Nat.sub_self]
  rfl
theorem mid_len {h : PH} {c : Cell} {g : List Cell} : (mid h c g).cs.length = h.cs.length + 1 + g.length := by
  show (h.cs ++ [c] ++ g).length = _
  rw [List.length_append, List.length_append]; rfl
theorem mid_grow {h : PH} {c : Cell} {g : List Cell} : Grow h (mid h c g) := ⟨[c] ++ g, by show PH.mk (h.cs ++ [c] ++ g) _ = _; rw [List.append_assoc]⟩
theorem grow_mid {h X : PH} {c : Cell} (a : Grow (h.push c) X) : ∃ g, X = mid h c g := by
  obtain ⟨g, rfl⟩ := a
  exact ⟨g, rfl⟩
end Dy

set_option exponentiation.threshold 5000
namespace Lk47
open PySem PySem.Spec PyProof.Rows L2 Dy
/-! ### machines -/
def M (a b c d e : Int) : D := .tup [.int a, .int b, .int c, .int d, .int e]
def GM (a b c d e : Int) : Prop := (32 ≤ a ∧ a ≤ 256) ∧ (1 ≤ b ∧ b ≤ 16384) ∧ (16 ≤ c ∧ c ≤ 4096) ∧ (1 ≤ d ∧ d ≤ 4) ∧ (1 ≤ e ∧ e ≤ 16)
theorem check_ap {a b c d e : Int} {h : PH} (g : GM a b c d e) (hl : h.lim ≤ h.cs.length) : f_check_machine [M a b c d e] h = .ok .non h := by
  obtain ⟨⟨a1, a2⟩, ⟨b1, b2⟩, ⟨c1, c2⟩, ⟨d1, d2⟩, ⟨e1, e2⟩⟩ := g
  have h1 : ∀ {lo hi x : Int}, lo ≤ x → x ≤ hi → (decide (x < lo) || decide (hi < x)) = false := fun q r => by simp; omega
  unfold f_check_machine s_check_machine M
  simp [b_check_machine_0, c_LIMITS, rangeD_cons, rangeD_nil, h1 a1 a2, h1 b1 b2, h1 c1 c2, h1 d1 d2, h1 e1 e2, hl, gc_max]
def fit (w n : Int) : Bool := decide (-2 ^ (w - 1).toNat ≤ n) && decide (n < 2 ^ (w - 1).toNat)
theorem fits_ap {w n : Int} {h : PH} (w1 : 1 ≤ w) (w2 : w ≤ 256) (hl : h.lim ≤ h.cs.length) : f_fits_width [.int w, .int n] h = .ok (.bl (fit w n)) h := by
  unfold f_fits_width s_fits_width fit
  have e1 : ∀ h, shlF (.int 1) (.int (w - 1)) h = .ok (.int (2 ^ (w - 1).toNat)) h := fun h => by
    rw [shlF_int (by omega)]; simp
  simp [e1, hl]
/-! ### instructions -/
inductive Ins where
  | set (a n : Int)
  | load (a b c : Int)
  | store (a b c : Int)
  | mac (a b c d e f : Int)
  | loop (v s t c : Int)
  | fin
  | skip (v c : Int)
  | inn (q a n b m c : Int)
  | out (q a n b m c : Int)
  | wait (q : Int)
  | vec (k : Str) (d a b c : Int)
  | doo (k : Str) (d : Int) (ss fs : List Int)
def iD : Ins → D
  | .set a n => .tup [.str "set", .int a, .int n]
  | .load a b c => .tup [.str "load", .int a, .int b, .int c]
  | .store a b c => .tup [.str "store", .int a, .int b, .int c]
  | .mac a b c d e f => .tup [.str "mac", .int a, .int b, .int c, .int d, .int e, .int f]
  | .loop v s t c => .tup [.str "loop", .int v, .int s, .int t, .int c]
  | .fin => .tup [.str "end"]
  | .skip v c => .tup [.str "skip", .int v, .int c]
  | .inn q a n b m c => .tup [.str "in", .int q, .int a, .int n, .int b, .int m, .int c]
  | .out q a n b m c => .tup [.str "out", .int q, .int a, .int n, .int b, .int m, .int c]
  | .wait q => .tup [.str "wait", .int q]
  | .vec k d a b c => .tup [.str "vector", .str k, .int d, .int a, .int b, .int c]
  | .doo k d ss fs => .tup [.str "do", .str k, .int d, .tup (ss.map .int), .tup (fs.map .int)]
def PW : List Str := ["add", "sub", "mul", "max", "min", "less", "equal", "neg", "clamp", "shift", "where"]
def args (k : Str) : Nat := if k = "neg" ∨ k = "clamp" ∨ k = "shift" then 1 else if k = "where" then 3 else 2
def flds (k : Str) : Nat := if k = "clamp" then 2 else if k = "shift" then 1 else 0
/-- a kind is one of the table -/
def Ty : Ins → Prop
  | .vec k _ _ _ _ => k ∈ PW
  | .doo k _ ss fs => k ∈ PW ∧ ss.length ≤ 1000000 ∧ fs.length ≤ 1000000
  | _ => True
def wf : Ins → Bool
  | .vec k _ _ _ _ => decide (args k = 2)
  | .doo k _ ss fs => decide (ss.length = args k) && decide (fs.length = flds k)
  | _ => true
theorem lenMap {l : List Int} {h : PH} : lenF (.tup (l.map D.int)) h = .ok (.int (l.length : Int)) h := by rw [lenF_tup, List.length_map]
theorem kcut {d : D} {h : PH} {r : Res D} (q : r = .ok d (h.cut (max h.cs.length (max h.lim d.mr)))) (hl : h.lim ≤ h.cs.length) (z : d.mr = 0) : r = .ok d h := by
  rw [q, z, cut_ge (by omega)]
theorem kcutE {c : Str} {h : PH} {r : Res D} (q : r = .exc c (h.cut (max h.cs.length h.lim))) (hl : h.lim ≤ h.cs.length) : r = .exc c h := by
  rw [q, cut_ge (by omega)]
theorem pw_cases {P : Str → Prop} (h1 : P "add") (h2 : P "sub") (h3 : P "mul") (h4 : P "max") (h5 : P "min") (h6 : P "less") (h7 : P "equal") (h8 : P "neg") (h9 : P "clamp") (h10 : P "shift") (h11 : P "where") {k : Str} (q : k ∈ PW) : P k := by
  unfold PW at q
  simp only [List.mem_cons, List.not_mem_nil, or_false] at q
  rcases q with rfl | rfl | rfl | rfl | rfl | rfl | rfl | rfl | rfl | rfl | rfl <;> assumption
theorem wf_vec {k : Str} {d a b c : Int} {h : PH} (t : k ∈ PW) (hl : h.lim ≤ h.cs.length) : f_well_formed [iD (.vec k d a b c)] h = .ok (.bl (wf (.vec k d a b c))) h := by
  refine pw_cases (P := fun k => f_well_formed [iD (.vec k d a b c)] h = .ok (.bl (wf (.vec k d a b c))) h) ?_ ?_ ?_ ?_ ?_ ?_ ?_ ?_ ?_ ?_ ?_ t
  all_goals exact kcut (by kernel_rfl) hl rfl
theorem s_ref_none : True := trivial
theorem wf_doo {k : Str} {d : Int} {ss fs : List Int} {h : PH} (t : k ∈ PW) (hl : h.lim ≤ h.cs.length) : f_well_formed [iD (.doo k d ss fs)] h = .ok (.bl (wf (.doo k d ss fs))) h := by
  have key : ∀ (k : Str) (A F : Int), List.lookup k c_ARGS = some (D.int A) → List.lookup k c_FIELDS = some (D.int F) → args k = A.toNat → flds k = F.toNat → 0 ≤ A → 0 ≤ F → (∀ h, notInF (.str k) c_POINTWISE h = .ok (.bl false) h) → f_well_formed [iD (.doo k d ss fs)] h = .ok (.bl (wf (.doo k d ss fs))) h := by
    intro k A F e1 e2 e3 e4 p1 p2 ni
    have d1 : ∀ h, dIx "ARGS" c_ARGS (.glb "ARGS") (.str k) h = .ok (.int A) h := fun h => dIx_ap e1
    have d2 : ∀ h, dIx "FIELDS" c_FIELDS (.glb "FIELDS") (.str k) h = .ok (.int F) h := fun h => dIx_ap e2
    have d3 : ∀ h, dIx "LENGTHS" c_LENGTHS (.glb "LENGTHS") (.str "do") h = .ok (.int 5) h := fun h => dIx_ap (by rfl)
    have d4 : (List.lookup ("do" : Str) c_LENGTHS).isSome = true := by rfl
    have z1 : decide ((ss.length : Int) = A) = decide (ss.length = args k) := by rw [e3]; by_cases c : (ss.length : Int) = A <;> simp [c] <;> omega
    have z2 : decide ((fs.length : Int) = F) = decide (fs.length = flds k) := by rw [e4]; by_cases c : (fs.length : Int) = F <;> simp [c] <;> omega
    unfold f_well_formed s_well_formed iD wf
    simp only [← z1, ← z2]
    simp [d1, d2, d3, d4, ni, lenMap, hl]
  have nk : ∀ k ∈ PW, ∀ h, notInF (.str k) c_POINTWISE h = .ok (.bl false) h := by
    intro k q h
    refine pw_cases (P := fun k => notInF (.str k) c_POINTWISE h = .ok (.bl false) h) ?_ ?_ ?_ ?_ ?_ ?_ ?_ ?_ ?_ ?_ ?_ q
    all_goals kernel_rfl
  have nk' := nk k t
  revert nk'
  refine pw_cases (P := fun k => (∀ h, notInF (.str k) c_POINTWISE h = .ok (.bl false) h) → f_well_formed [iD (.doo k d ss fs)] h = .ok (.bl (wf (.doo k d ss fs))) h) ?_ ?_ ?_ ?_ ?_ ?_ ?_ ?_ ?_ ?_ ?_ t
  · exact key _ 2 0 (by rfl) (by rfl) (by decide +kernel) (by decide +kernel) (by decide) (by decide)
  · exact key _ 2 0 (by rfl) (by rfl) (by decide +kernel) (by decide +kernel) (by decide) (by decide)
  · exact key _ 2 0 (by rfl) (by rfl) (by decide +kernel) (by decide +kernel) (by decide) (by decide)
  · exact key _ 2 0 (by rfl) (by rfl) (by decide +kernel) (by decide +kernel) (by decide) (by decide)
  · exact key _ 2 0 (by rfl) (by rfl) (by decide +kernel) (by decide +kernel) (by decide) (by decide)
  · exact key _ 2 0 (by rfl) (by rfl) (by decide +kernel) (by decide +kernel) (by decide) (by decide)
  · exact key _ 2 0 (by rfl) (by rfl) (by decide +kernel) (by decide +kernel) (by decide) (by decide)
  · exact key _ 1 0 (by rfl) (by rfl) (by decide +kernel) (by decide +kernel) (by decide) (by decide)
  · exact key _ 1 2 (by rfl) (by rfl) (by decide +kernel) (by decide +kernel) (by decide) (by decide)
  · exact key _ 1 1 (by rfl) (by rfl) (by decide +kernel) (by decide +kernel) (by decide) (by decide)
  · exact key _ 3 0 (by rfl) (by rfl) (by decide +kernel) (by decide +kernel) (by decide) (by decide)
theorem wf_ap {i : Ins} {h : PH} (t : Ty i) (hl : h.lim ≤ h.cs.length) : f_well_formed [iD i] h = .ok (.bl (wf i)) h := by
  cases i with
  | vec k d a b c => exact wf_vec t hl
  | doo k d ss fs => exact wf_doo t.1 hl
  | _ => exact kcut (by kernel_rfl) hl rfl
end Lk47

set_option exponentiation.threshold 5000
namespace Lk47
open PySem PySem.Spec PyProof.Rows L2 Dy
@[simp] theorem ofS_eq {a b : String} : (PySem.Str.ofString a = PySem.Str.ofString b) = (a = b) := by
  apply propext
  constructor
  · intro h
    rw [PySem.Str.ofString_eq_toList, PySem.Str.ofString_eq_toList] at h
    have h1 : (a.toList.map Char.toNat).toArray = (b.toList.map Char.toNat).toArray := congrArg PySem.Str.cps h
    have h2 := congrArg Array.toList h1
    simp only [] at h2
    have h3 := (List.map_inj_right (f := Char.toNat) (fun x y e => Char.toNat_inj.mp e)).mp h2
    exact String.toList_inj.mp h3
  · intro h; rw [h]
def inb (lo x hi : Int) : Bool := decide (lo ≤ x) && decide (x ≤ hi)
theorem inb_f {lo x hi : Int} : (decide (lo ≤ x) && decide (x ≤ hi)) = inb lo x hi := rfl
def lir (w s t c : Int) : Bool := inb 1 c 1000 && (inb (-2 ^ w.toNat) s (2 ^ w.toNat) && (inb (-2 ^ w.toNat) t (2 ^ w.toNat) && (fit w s && fit w (s + t * (c - 1)))))
theorem lir_ap {w v s t c : Int} {h : PH} (w1 : 1 ≤ w) (w2 : w ≤ 256) (hl : h.lim ≤ h.cs.length) : f_loop_in_range [.int w, iD (.loop v s t c)] h = .ok (.bl (lir w s t c)) h := by
  have e1 : ∀ h, shlF (.int 1) (.int w) h = .ok (.int (2 ^ w.toNat)) h := fun h => by
    rw [shlF_int (by omega)]; simp
  have sl : ∀ h, slF (iD (.loop v s t c)) (some 2) (some 5) h = .ok (.tup [.int s, .int t, .int c]) h := fun h => by kernel_rfl
  unfold f_loop_in_range s_loop_in_range lir
  cases q1 : inb 1 c 1000 with
  | false => simp [setAll, sl, e1, inb_f, q1, hl]
  | true =>
    cases q2 : inb (-2 ^ w.toNat) s (2 ^ w.toNat) with
    | false => simp [setAll, sl, e1, inb_f, q1, q2, hl]
    | true =>
      cases q3 : inb (-2 ^ w.toNat) t (2 ^ w.toNat) with
      | false => simp [setAll, sl, e1, inb_f, q1, q2, q3, hl]
      | true =>
        have hp : (2 : Int) ^ w.toNat ≤ 2 ^ 256 := by
          have : (2 : Nat) ^ w.toNat ≤ 2 ^ 256 := Nat.pow_le_pow_right (by decide) (by omega)
          exact_mod_cast this
        have st : sm t := by
          unfold inb at q3
          simp at q3
          refine sm_of (n := 257) ?_ (by omega)
          have : t.natAbs ≤ 2 ^ 256 := by omega
          omega
        have sc : sm (c - 1) := by
          unfold inb at q1
          simp at q1
          exact sm_lt (by omega) (by omega)
        simp [setAll, sl, e1, inb_f, q1, q2, q3, hl, fits_ap w1 w2 hl, st, sc]
/-! ### all of a comprehension -/
theorem blsOf_map {α : Type} (p : α → Bool) : ∀ ds : List α, blsOf (ds.map fun d => D.bl (p d)) = some (ds.map p)
  | [] => rfl
  | d :: ds => by
    show (match blsOf (ds.map fun d => D.bl (p d)) with | some l => some (p d :: l) | none => none) = _
    rw [blsOf_map p ds]; rfl
theorem all_c {m : EM} {i : Nat} {elt : EM} {e : Dy.Env} {h : PH} {ds : List D} {p : D → Bool} (hm : m e h = .ok (.tup ds) h) (l : ds.length ≤ 1000000) (H : ∀ d ∈ ds, elt ((e.set i none).set i (some d)) h = .ok (.bl (p d)) h) :
    nA (Dy.f1 allF) (consA (compXE (srcE m) [i] (.one i) yesT elt) nilA) e h = .ok (.bl (ds.all p)) (h.push (.lst (ds.map fun d => .bl (p d)))) := by
  have c : compV (.one i) yesT elt (e.set i none) ds h = .ok (ds.map fun d => .bl (p d)) h := compV_all fun d hd => ⟨_, tgt_one, H d hd⟩
  have f : ∀ X : PH, X.at h.cs.length = some (.lst (ds.map fun d => .bl (p d))) → allF (.ref h.cs.length) X = .ok (.bl (ds.all p)) X := fun X hX => by
    have e1 : itemsL X (.ref h.cs.length) = some (ds.map fun d => .bl (p d)) := by rw [itemsL_ref, hX]; rfl
    unfold allF
    rw [e1]
    show (match blsOf (ds.map fun d => D.bl (p d)) with | some bs => Res.ok (D.bl (bs.all id)) X | none => .stuck) = _
    rw [blsOf_map]
    simp
  have ll : (ds.map fun d => D.bl (p d)).length ≤ 16777216 := by rw [List.length_map]; omega
  simp only [nA_ap, consA_fr, compXE_fr, srcE_ap, hm]
  simp [c, flX_ok ll, f _ push_at, -push_ap]
def WID : Int := 1606938044258990275541962092341162602522202993782792835301376
def fir (k : Str) (fs : List Int) : Bool := if k = "clamp" then (match fs with | [x, y] => decide (-WID ≤ x) && (decide (x ≤ y) && decide (y ≤ WID)) | _ => true) else if k = "shift" then (match fs with | [x] => inb 1 x 30 | _ => true) else true
theorem fir_ap {k : Str} {fs : List Int} {h : PH} (t : k ∈ PW) (w : fs.length = flds k) (hl : h.lim ≤ h.cs.length) : f_fields_in_range [.str k, .tup (fs.map .int)] h = .ok (.bl (fir k fs)) h := by
  have o : ∀ k : Str, k ≠ "clamp" → k ≠ "shift" → f_fields_in_range [.str k, .tup (fs.map .int)] h = .ok (.bl (fir k fs)) h := fun k c1 c2 => by
    unfold f_fields_in_range s_fields_in_range fir
    simp [c1, c2, hl]
  by_cases c1 : k = "clamp"
  · subst c1
    have w2 : fs.length = 2 := by rw [w]; decide +kernel
    obtain ⟨x, y, rfl⟩ : ∃ x y, fs = [x, y] := by
      match fs, w2 with
      | [x, y], _ => exact ⟨x, y, rfl⟩
    unfold f_fields_in_range s_fields_in_range fir c_WIDEST WID
    simp [hl]
  · by_cases c2 : k = "shift"
    · subst c2
      have w2 : fs.length = 1 := by rw [w]; decide +kernel
      obtain ⟨x, rfl⟩ : ∃ x, fs = [x] := by
        match fs, w2 with
        | [x], _ => exact ⟨x, rfl⟩
      have ne : ¬ ("shift" : Str) = "clamp" := by decide +kernel
      unfold f_fields_in_range s_fields_in_range fir inb
      simp [hl, ne]
    · exact o k c1 c2
def pS : D → Bool
  | .int s => inb 0 s 31
  | _ => false
def pF (w : Int) : D → Bool
  | .int s => fit w s
  | _ => false
/-- the machine's width, queues, lanes -/
def own (w q l : Int) : Ins → Bool
  | .set _ n => fit w n
  | .doo k _ ss fs => ((ss.map D.int).all pS) && (fir k fs && (if k = "clamp" then (fs.map D.int).all (pF w) else true))
  | .mac _ _ _ _ _ f => inb 1 f l
  | .vec _ _ _ _ c => inb 1 c l
  | .loop _ s t c => lir w s t c
  | .skip _ c => inb 0 c 4000000
  | .inn p _ _ _ _ c => (decide (0 ≤ p) && decide (p < q)) && inb 1 c 4096
  | .out p _ _ _ _ c => (decide (0 ≤ p) && decide (p < q)) && inb 1 c 4096
  | .wait p => decide (0 ≤ p) && decide (p < q)
  | _ => true
def AE1 : EM := nA (Dy.f1 allF) (consA (compXE (srcE (b2E ixF (vE 1) (cE (.int 3)))) [9] (.one 9) yesT e_own_in_range_1) (nilA))
def AE2 : EM := nA (Dy.f1 allF) (consA (compXE (srcE (b2E ixF (vE 1) (cE (.int 4)))) [10] (.one 10) yesT e_own_in_range_0) (nilA))
theorem s_own_in_range_al : s_own_in_range = seqS (asgS (vE 0) (.many [2, 3, 4, 5, 6])) (seqS (asgS (b2E ixF (vE 1) (cE (.int 0))) (.one 7)) (seqS (ifS (tbT (b2E eqF (vE 7) (cE (.str "set")))) (seqS (retS (nA (callF 2 f_fits_width) (consA (vE 2) (consA (b2E ixF (vE 1) (cE (.int 2))) (nilA))))) (nextS)) (nextS)) (seqS (ifS (tbT (b2E eqF (vE 7) (cE (.str "do")))) (seqS (asgS (andE (AE1) (nA (callF 2 f_fields_in_range) (consA (b2E ixF (vE 1) (cE (.int 1))) (consA (b2E ixF (vE 1) (cE (.int 4))) (nilA))))) (.one 8)) (seqS (ifS (tbT (b2E eqF (b2E ixF (vE 1) (cE (.int 1))) (cE (.str "clamp")))) (seqS (asgS (andE (vE 8) (AE2)) (.one 8)) (nextS)) (nextS)) (seqS (retS (vE 8)) (nextS)))) (nextS)) (seqS (ifS (tbT (b2E eqF (vE 7) (cE (.str "mac")))) (seqS (retS (chE leF leF (cE (.int 1)) (b2E ixF (vE 1) (cE (.int 6))) (vE 6))) (nextS)) (nextS)) (seqS (ifS (tbT (b2E eqF (vE 7) (cE (.str "vector")))) (seqS (retS (chE leF leF (cE (.int 1)) (b2E ixF (vE 1) (cE (.int 5))) (vE 6))) (nextS)) (nextS)) (seqS (ifS (tbT (b2E eqF (vE 7) (cE (.str "loop")))) (seqS (retS (nA (callF 2 f_loop_in_range) (consA (vE 2) (consA (vE 1) (nilA))))) (nextS)) (nextS)) (seqS (ifS (tbT (b2E eqF (vE 7) (cE (.str "skip")))) (seqS (retS (chE leF leF (cE (.int 0)) (b2E ixF (vE 1) (cE (.int 2))) (cE c_CODE_LIMIT))) (nextS)) (nextS)) (seqS (ifS (tbT (b2E inF (vE 7) (nA tupF (consA (cE (.str "in")) (consA (cE (.str "out")) (nilA)))))) (seqS (retS (andE (chE leF ltF (cE (.int 0)) (b2E ixF (vE 1) (cE (.int 1))) (vE 5)) (chE leF leF (cE (.int 1)) (b2E ixF (vE 1) (cE (.int 6))) (cE (.int 4096))))) (nextS)) (nextS)) (seqS (ifS (tbT (b2E eqF (vE 7) (cE (.str "wait")))) (seqS (retS (chE leF ltF (cE (.int 0)) (b2E ixF (vE 1) (cE (.int 1))) (vE 5))) (nextS)) (nextS)) (seqS (retS (cE (.bl true))) (nextS))))))))))) := rfl
theorem inStr {x : Str} {ds : List D} {b : Bool} {h : PH} (q : inF (.str x) (.tup ds) h = .ok (.bl b) h) : inF (.str x) (.tup ds) h = .ok (.bl b) h := q
theorem own_ap {a b c d e : Int} {i : Ins} {h : PH} (g : GM a b c d e) (t : Ty i) (w : wf i = true) (hl : h.lim ≤ h.cs.length) : f_own_in_range [M a b c d e, iD i] h = .ok (.bl (own a d e i)) h := by
  obtain ⟨⟨a1, a2⟩, _⟩ := g
  have i1 : ∀ h, inF (.str "load") (.tup [.str "in", .str "out"]) h = .ok (.bl false) h := fun h => by kernel_rfl
  have i2 : ∀ h, inF (.str "store") (.tup [.str "in", .str "out"]) h = .ok (.bl false) h := fun h => by kernel_rfl
  have i3 : ∀ h, inF (.str "end") (.tup [.str "in", .str "out"]) h = .ok (.bl false) h := fun h => by kernel_rfl
  have i4 : ∀ h, inF (.str "in") (.tup [.str "in", .str "out"]) h = .ok (.bl true) h := fun h => by kernel_rfl
  have i5 : ∀ h, inF (.str "out") (.tup [.str "in", .str "out"]) h = .ok (.bl true) h := fun h => by kernel_rfl
  have i6 : ∀ h, inF (.str "wait") (.tup [.str "in", .str "out"]) h = .ok (.bl false) h := fun h => by kernel_rfl
  unfold f_own_in_range M own
  rw [s_own_in_range_al]
  cases i with
  | set a n => unfold iD; simp [setAll, fits_ap (n := n) (show 1 ≤ _ by omega) a2 hl, hl]
  | load => unfold iD; simp [setAll, hl, i1]
  | store => unfold iD; simp [setAll, hl, i2]
  | fin => unfold iD; simp [setAll, hl, i3]
  | mac => unfold iD inb; simp [setAll, hl]
  | loop v s tt c =>
    have r := lir_ap (v := v) (s := s) (t := tt) (c := c) (show 1 ≤ a by omega) a2 hl
    simp only [iD] at r ⊢
    simp [setAll, r, hl]
  | skip => unfold iD inb c_CODE_LIMIT; simp [setAll, hl]
  | inn => unfold iD inb; simp [setAll, hl, i4]
  | out => unfold iD inb; simp [setAll, hl, i5]
  | wait => unfold iD; simp [setAll, hl, i6]
  | vec => unfold iD inb; simp [setAll, hl]
  | doo k x ss fs =>
    unfold wf at w
    have wl : fs.length = flds k := by simp at w; exact w.2
    obtain ⟨t1, t2, t3⟩ := t
    have hl2 : ∀ {X : PH}, X.lim ≤ X.cs.length → ∀ cs, (X.push cs).lim ≤ (X.push cs).cs.length := fun q cs => by rw [push_len]; show _ ≤ _; exact Nat.le_trans q (by omega)
    have A1 : ∀ (e0 : Dy.Env) (X : PH), e0.length = 11 → e0[1]? = some (some (iD (.doo k x ss fs))) → AE1 e0 X = .ok (.bl ((ss.map D.int).all pS)) (X.push (.lst ((ss.map D.int).map fun d => .bl (pS d)))) := fun e0 X l0 l1 => by
      refine all_c (p := pS) ?_ (by rw [List.length_map]; omega) fun dd hd => ?_
      · simp [l1, iD]
      · obtain ⟨s, _, rfl⟩ := List.mem_map.mp hd
        unfold e_own_in_range_1 pS inb
        simp [l0]
    have A2 : ∀ (e0 : Dy.Env) (X : PH), X.lim ≤ X.cs.length → e0.length = 11 → e0[1]? = some (some (iD (.doo k x ss fs))) → e0[2]? = some (some (.int a)) → AE2 e0 X = .ok (.bl ((fs.map D.int).all (pF a))) (X.push (.lst ((fs.map D.int).map fun d => .bl (pF a d)))) := fun e0 X hX l0 l1 l2 => by
      refine all_c (p := pF a) ?_ (by rw [List.length_map]; omega) fun dd hd => ?_
      · simp [l1, iD]
      · obtain ⟨s, _, rfl⟩ := List.mem_map.mp hd
        unfold e_own_in_range_0
        have f := fits_ap (n := s) (show 1 ≤ a by omega) a2 hX
        have g2 : ∀ y : Option D, ((e0.set 10 none).set 10 y)[2]? = some (some (.int a)) := fun y => by rw [List.getElem?_set_ne (by omega), List.getElem?_set_ne (by omega), l2]
        have g10 : ∀ y : Option D, ((e0.set 10 none).set 10 y)[10]? = some y := fun y => by rw [List.getElem?_set_self (by rw [List.length_set, l0]; omega)]
        simp only [nA_ap, consA_fr, vE_ap, g2, g10, vget_some, c1_ok, nilA_ap, c2_ok, bind_ok]
        rw [callF_ap (by rfl)]
        exact f
    show _ = Res.ok (D.bl ((ss.map D.int).all pS && (fir k fs && (if k = "clamp" then (fs.map D.int).all (pF a) else true)))) h
    generalize hb1 : (ss.map D.int).all pS = B1 at *
    generalize hb2 : (fs.map D.int).all (pF a) = B2 at *
    generalize hc1 : Cell.lst ((ss.map D.int).map fun d => .bl (pS d)) = C1 at *
    generalize hc2 : Cell.lst ((fs.map D.int).map fun d => .bl (pF a d)) = C2 at *
    have F1 := fir_ap (k := k) (fs := fs) (h := h.push C1) t1 wl (hl2 hl _)
    have A2' := A2 [some (.tup [.int a, .int b, .int c, .int d, .int e]), some (iD (.doo k x ss fs)), some (.int a), some (.int b), some (.int c), some (.int d), some (.int e), some (.str "do"), some (.bl true), none, none] (h.push C1) (hl2 hl _) rfl rfl rfl
    have A1' := A1 [some (.tup [.int a, .int b, .int c, .int d, .int e]), some (iD (.doo k x ss fs)), some (.int a), some (.int b), some (.int c), some (.int d), some (.int e), some (.str "do"), none, none, none] h rfl rfl
    have k1 : (h.push C1).cut (max h.cs.length h.lim) = h := by rw [push_cut (by omega)]; exact cut_ge (by omega)
    have k3 : (h.push C1).cut h.cs.length = h := by rw [push_cut (Nat.le_refl _), cut_len]
    have k4 : ((h.push C1).push C2).cut h.cs.length = h := by rw [push_cut (by rw [push_len]; omega)]; exact k3
    have k2 : ((h.push C1).push C2).cut (max h.cs.length h.lim) = h := by rw [push_cut (by rw [push_len]; omega)]; exact k1
    simp only [iD] at A1' A2' ⊢
    by_cases ck : k = "clamp"
    · subst ck
      cases B1 <;> cases hF : fir "clamp" fs <;> cases B2 <;> simp [setAll, A1', A2', F1, hF, k1, k2, k3, k4, hl, push_lim, -push_ap]
    · cases B1 <;> cases hF : fir k fs <;> simp [setAll, A1', F1, hF, ck, k1, k3, hl, push_lim, -push_ap]
def AS : EM := nA (Dy.f1 allF) (consA (compXE (srcE (b2E (dIx "SLOTS" c_SLOTS) (cE (.glb "SLOTS")) (vE 2))) [3] (.one 3) yesT e_in_range_1) (nilA))
def AO : EM := nA (Dy.f1 allF) (consA (compXE (srcE (b2E (dIx "OFFSETS" c_OFFSETS) (cE (.glb "OFFSETS")) (vE 2))) [3] (.one 3) yesT e_in_range_0) (nilA))
theorem s_in_range_al : s_in_range = seqS (asgS (b2E ixF (vE 1) (cE (.int 0))) (.one 2)) (seqS (ifS (notT (trT (AS))) (seqS (retS (cE (.bl false))) (nextS)) (nextS)) (seqS (ifS (notT (trT (AO))) (seqS (retS (cE (.bl false))) (nextS)) (nextS)) (seqS (retS (nA (callF 2 f_own_in_range) (consA (vE 0) (consA (vE 1) (nilA))))) (nextS)))) := rfl
/-! ### the numbers of an instruction in range -/
def nmI : Ins → Str
  | .set .. => "set"
  | .load .. => "load"
  | .store .. => "store"
  | .mac .. => "mac"
  | .loop .. => "loop"
  | .fin => "end"
  | .skip .. => "skip"
  | .inn .. => "in"
  | .out .. => "out"
  | .wait .. => "wait"
  | .vec .. => "vector"
  | .doo .. => "do"
def sl : Ins → List Int
  | .set .. => [1]
  | .load .. => [1, 2]
  | .store .. => [1, 3]
  | .mac .. => [1, 2, 4]
  | .loop .. => [1]
  | .skip .. => [1]
  | .inn .. => [2, 4]
  | .out .. => [2, 4]
  | .vec .. => [2, 3, 4]
  | .doo .. => [2]
  | _ => []
def ofs : Ins → List Int
  | .load .. => [3]
  | .store .. => [2]
  | .mac .. => [3, 5]
  | .inn .. => [3, 5]
  | .out .. => [3, 5]
  | _ => []
def atD : List D → Int → Int
  | ds, j => match ds[j.toNat]? with
    | some (.int n) => n
    | _ => 0
def fld (i : Ins) (j : Int) : Int := match iD i with
  | .tup ds => atD ds j
  | _ => 0
def pJ (i : Ins) : D → Bool
  | .int j => inb 0 (fld i j) 31
  | _ => false
def pO (i : Ins) : D → Bool
  | .int j => inb (-16384) (fld i j) 16384
  | _ => false
theorem ix_fld {i : Ins} {j : Int} {h : PH} (q : j ∈ sl i ∨ j ∈ ofs i) : ixF (iD i) (.int j) h = .ok (.int (fld i j)) h := by
  cases i <;> simp only [sl, ofs, List.mem_cons, List.not_mem_nil, or_false, false_or] at q
  all_goals (have h5 : j = 1 ∨ j = 2 ∨ j = 3 ∨ j = 4 ∨ j = 5 := by omega)
  all_goals (rcases h5 with rfl | rfl | rfl | rfl | rfl <;> first | (exfalso; omega) | kernel_rfl)
theorem nm_ix {i : Ins} {h : PH} : ixF (iD i) (.int 0) h = .ok (.str (nmI i)) h := by cases i <;> kernel_rfl
theorem slots_at {i : Ins} {h : PH} : dIx "SLOTS" c_SLOTS (.glb "SLOTS") (.str (nmI i)) h = .ok (.tup ((sl i).map .int)) h := dIx_ap (by cases i <;> rfl)
theorem ofs_at {i : Ins} {h : PH} : dIx "OFFSETS" c_OFFSETS (.glb "OFFSETS") (.str (nmI i)) h = .ok (.tup ((ofs i).map .int)) h := dIx_ap (by cases i <;> rfl)
theorem as_ap {m : D} {i : Ins} {x3 : Option D} {h : PH} : AS [some m, some (iD i), some (.str (nmI i)), x3] h = .ok (.bl (((sl i).map D.int).all (pJ i))) (h.push (.lst (((sl i).map D.int).map fun d => .bl (pJ i d)))) := by
  refine all_c (p := pJ i) ?_ (by rw [List.length_map]; cases i <;> simp [sl]) fun dd hd => ?_
  · simp [slots_at]
  · obtain ⟨j, hj, rfl⟩ := List.mem_map.mp hd
    unfold e_in_range_1 pJ inb
    simp [ix_fld (.inl hj)]
theorem ao_ap {m : D} {i : Ins} {x3 : Option D} {h : PH} : AO [some m, some (iD i), some (.str (nmI i)), x3] h = .ok (.bl (((ofs i).map D.int).all (pO i))) (h.push (.lst (((ofs i).map D.int).map fun d => .bl (pO i d)))) := by
  refine all_c (p := pO i) ?_ (by rw [List.length_map]; cases i <;> simp [ofs]) fun dd hd => ?_
  · simp [ofs_at]
  · obtain ⟨j, hj, rfl⟩ := List.mem_map.mp hd
    unfold e_in_range_0 pO inb
    simp [ix_fld (.inr hj)]
def ir (a d e : Int) (i : Ins) : Bool := ((sl i).map D.int).all (pJ i) && (((ofs i).map D.int).all (pO i) && own a d e i)
theorem push_ok {X : PH} {c : Cell} (q : X.lim ≤ X.cs.length) : (X.push c).lim ≤ (X.push c).cs.length := by rw [push_len]; show _ ≤ _; exact Nat.le_trans q (by omega)
theorem cut1 {h : PH} {c : Cell} {m : Nat} (q : m ≤ h.cs.length) : (h.push c).cut (max h.cs.length m) = h := by rw [Nat.max_eq_left q, push_cut (Nat.le_refl _), cut_len]
theorem cut2 {h : PH} {c c' : Cell} {m : Nat} (q : m ≤ h.cs.length) : ((h.push c).push c').cut (max h.cs.length m) = h := by rw [Nat.max_eq_left q, push_cut (by rw [push_len]; omega), push_cut (Nat.le_refl _), cut_len]
theorem ir_ap {a b c d e : Int} {i : Ins} {h : PH} (g : GM a b c d e) (t : Ty i) (w : wf i = true) (hl : h.lim ≤ h.cs.length) : f_in_range [M a b c d e, iD i] h = .ok (.bl (ir a d e i)) h := by
  have o := fun C1 C2 => own_ap (h := (h.push C1).push C2) g t w (push_ok (push_ok hl))
  have s := as_ap (m := M a b c d e) (i := i) (x3 := none) (h := h)
  generalize hc : Cell.lst (((sl i).map D.int).map fun d => .bl (pJ i d)) = C1 at *
  have s2 := ao_ap (m := M a b c d e) (i := i) (x3 := none) (h := h.push C1)
  generalize hc : Cell.lst (((ofs i).map D.int).map fun d => .bl (pO i d)) = C2 at *
  have k1 := cut1 (h := h) (c := C1) hl
  have k2 := cut2 (h := h) (c := C1) (c' := C2) hl
  unfold f_in_range ir
  rw [s_in_range_al]
  generalize ((sl i).map D.int).all (pJ i) = B1 at *
  generalize ((ofs i).map D.int).all (pO i) = B2 at *
  cases B1 <;> cases B2 <;> simp [nm_ix, s, s2, o, k1, k2, push_lim, hl, -push_ap] <;> simp [Nat.max_eq_left, push_cut, cut_len, push_len, hl, -push_ap]
end Lk47

set_option exponentiation.threshold 5000
namespace Lk47
open PySem PySem.Spec PyProof.Rows L2 Dy
/-! ### depths -/
def dep : List Ins → Int → List Int → Option (List Int × Int)
  | [], d, acc => some (acc, d)
  | i :: r, d, acc => if nmI i = "end" then (if d - 1 < 0 then none else dep r (d - 1) (acc ++ [d - 1])) else if nmI i = "loop" then dep r (d + 1) (acc ++ [d]) else dep r d (acc ++ [d])
theorem dp_put {h : PH} {a c : Cell} (z : c.mr ≤ h.cs.length) : (h.push a).put h.cs.length c = h.push c := push_put1 z
theorem mrI {ns : List Int} : (Cell.lst (ns.map D.int)).mr = 0 := by rw [mr_lst, mrL_int]
theorem app_dp {h : PH} {ns : List Int} {k : Int} (l : ns.length < 16777216) : appF (.ref h.cs.length) [.int k] (h.push (.lst (ns.map .int))) = .ok .non (h.push (.lst ((ns ++ [k]).map .int))) := by
  rw [app_ap push_at (by rw [List.length_map]; exact l), ← show (Cell.lst ((ns ++ [k]).map D.int)) = .lst (ns.map D.int ++ [.int k]) by rw [List.map_append]; rfl, push_put1 (by rw [mrI]; omega)]
theorem gc_dp {h : PH} {c : Cell} {e : Dy.Env} {l : Nat} (q : h.cs.length + 1 ≤ l) : (h.push c).gc l e = h.push c := gc_max (by rw [push_len]; exact q)
theorem dep_step {h : PH} {x0 : Option D} {i : Ins} {d : Int} {acc : List Int} (l : acc.length < 1000000) :
    b_depths_of_0 [x0, some (.ref h.cs.length), some (.int d), some (iD i)] (h.push (.lst (acc.map .int))) =
      if nmI i = "end" then (if d - 1 < 0 then .exc "FormError" [x0, some (.ref h.cs.length), some (.int (d - 1)), some (iD i)] (h.push (.lst (acc.map .int))) else .nxt [x0, some (.ref h.cs.length), some (.int (d - 1)), some (iD i)] (h.push (.lst ((acc ++ [d - 1]).map .int))))
      else if nmI i = "loop" then .nxt [x0, some (.ref h.cs.length), some (.int (d + 1)), some (iD i)] (h.push (.lst ((acc ++ [d]).map .int))) else .nxt [x0, some (.ref h.cs.length), some (.int d), some (iD i)] (h.push (.lst ((acc ++ [d]).map .int))) := by
  have ap := fun k => app_dp (h := h) (ns := acc) (k := k) (by omega)
  have il : isLst ((h.push (.lst (acc.map .int))).at h.cs.length) = true := by rw [push_at]; rfl
  unfold b_depths_of_0
  by_cases c1 : nmI i = "end"
  · have ne : ¬ ("end" : Str) = "loop" := by decide +kernel
    by_cases c2 : d - 1 < 0
    · simp [nm_ix, c1, c2, -push_ap]
    · simp [nm_ix, c1, c2, ap, il, ne, -push_ap, -appF_refO]
  · by_cases c2 : nmI i = "loop"
    · simp [nm_ix, c1, c2, ap, il, -push_ap, -appF_refO]
    · simp [nm_ix, c1, c2, ap, il, -push_ap, -appF_refO]
theorem dep_l {h : PH} {x0 : Option D} : ∀ (is : List Ins) (d : Int) (acc : List Int) (x : Option D), acc.length + is.length ≤ 100000 →
    (∀ acc' d', dep is d acc = some (acc', d') → ∃ x', forV (.one 3) b_depths_of_0 (h.cs.length + 1) (is.map iD) [x0, some (.ref h.cs.length), some (.int d), x] (h.push (.lst (acc.map .int))) = .nxt [x0, some (.ref h.cs.length), some (.int d'), x'] (h.push (.lst (acc'.map .int)))) ∧
    (dep is d acc = none → ∃ e' a', forV (.one 3) b_depths_of_0 (h.cs.length + 1) (is.map iD) [x0, some (.ref h.cs.length), some (.int d), x] (h.push (.lst (acc.map .int))) = .exc "FormError" e' (h.push a')) := by
  intro is
  induction is with
  | nil =>
    intro d acc x _
    exact ⟨fun a' d' q => (by cases q; exact ⟨x, rfl⟩), fun q => (by cases q)⟩
  | cons i is ih =>
    intro d acc x l
    rw [List.length_cons] at l
    have st := dep_step (h := h) (x0 := x0) (i := i) (d := d) (acc := acc) (by omega)
    have go : ∀ d2 k, forV (.one 3) b_depths_of_0 (h.cs.length + 1) ((i :: is).map iD) [x0, some (.ref h.cs.length), some (.int d), x] (h.push (.lst (acc.map .int))) = forV (.one 3) b_depths_of_0 (h.cs.length + 1) (is.map iD) [x0, some (.ref h.cs.length), some (.int d2), some (iD i)] (h.push (.lst ((acc ++ [k]).map .int))) → dep (i :: is) d acc = dep is d2 (acc ++ [k]) →
        (∀ acc' d', dep (i :: is) d acc = some (acc', d') → ∃ x', forV (.one 3) b_depths_of_0 (h.cs.length + 1) ((i :: is).map iD) [x0, some (.ref h.cs.length), some (.int d), x] (h.push (.lst (acc.map .int))) = .nxt [x0, some (.ref h.cs.length), some (.int d'), x'] (h.push (.lst (acc'.map .int)))) ∧
        (dep (i :: is) d acc = none → ∃ e' a', forV (.one 3) b_depths_of_0 (h.cs.length + 1) ((i :: is).map iD) [x0, some (.ref h.cs.length), some (.int d), x] (h.push (.lst (acc.map .int))) = .exc "FormError" e' (h.push a')) := fun d2 k e1 e2 => by
      rw [e1, e2]
      exact ih d2 (acc ++ [k]) (some (iD i)) (by rw [List.length_append]; simp; omega)
    have nx : ∀ d2 k, b_depths_of_0 [x0, some (.ref h.cs.length), some (.int d), some (iD i)] (h.push (.lst (acc.map .int))) = .nxt [x0, some (.ref h.cs.length), some (.int d2), some (iD i)] (h.push (.lst ((acc ++ [k]).map .int))) →
        forV (.one 3) b_depths_of_0 (h.cs.length + 1) ((i :: is).map iD) [x0, some (.ref h.cs.length), some (.int d), x] (h.push (.lst (acc.map .int))) = forV (.one 3) b_depths_of_0 (h.cs.length + 1) (is.map iD) [x0, some (.ref h.cs.length), some (.int d2), some (iD i)] (h.push (.lst ((acc ++ [k]).map .int))) := fun d2 k q => by
      rw [List.map_cons, forV_cons, tgt_one, tgtO_some]
      show (b_depths_of_0 [x0, some (.ref h.cs.length), some (.int d), some (iD i)] (h.push (.lst (acc.map .int)))).nextV _ _ _ _ = _
      rw [q, nextV_nxt, gc_dp (Nat.le_refl _)]
    by_cases c1 : nmI i = "end"
    · rw [if_pos c1] at st
      by_cases c2 : d - 1 < 0
      · rw [if_pos c2] at st
        have e : dep (i :: is) d acc = none := by unfold dep; rw [if_pos c1, if_pos c2]
        rw [e]
        refine ⟨fun a' d' q => (by cases q), fun _ => ⟨[x0, some (.ref h.cs.length), some (.int (d - 1)), some (iD i)], .lst (acc.map .int), ?_⟩⟩
        rw [List.map_cons, forV_cons, tgt_one, tgtO_some]
        show (b_depths_of_0 [x0, some (.ref h.cs.length), some (.int d), some (iD i)] (h.push (.lst (acc.map .int)))).nextV _ _ _ _ = _
        rw [st]; rfl
      · rw [if_neg c2] at st
        exact go _ _ (nx _ _ st) (by show (if nmI i = "end" then _ else _) = _; rw [if_pos c1, if_neg c2])
    · rw [if_neg c1] at st
      by_cases c2 : nmI i = "loop"
      · rw [if_pos c2] at st
        exact go _ _ (nx _ _ st) (by show (if nmI i = "end" then _ else _) = _; rw [if_neg c1, if_pos c2])
      · rw [if_neg c2] at st
        exact go _ _ (nx _ _ st) (by show (if nmI i = "end" then _ else _) = _; rw [if_neg c1, if_neg c2])
def cD (is : List Ins) : D := .tup (is.map iD)
theorem mrIs {is : List Ins} : mrL (is.map iD) = 0 := by
  induction is with
  | nil => rfl
  | cons i is ih =>
    rw [List.map_cons, mrL_cons, ih]
    have : (iD i).mr = 0 := by cases i <;> simp [iD]
    omega
theorem depths_ok {is : List Ins} {h : PH} {ds : List Int} (l : is.length ≤ 100000) (q : dep is 0 [] = some (ds, 0)) (hl : h.lim ≤ h.cs.length) : f_depths_of [cD is] h = .ok (.ref h.cs.length) (h.push (.lst (ds.map .int))) := by
  obtain ⟨x', w⟩ := (dep_l (h := h) (x0 := some (cD is)) is 0 [] none (by simpa using l)).1 ds 0 q
  have w : forV (.one 3) b_depths_of_0 (h.cs.length + 1) (is.map iD) [some (cD is), some (.ref h.cs.length), some (.int 0), none] (h.push (.lst [])) = _ := w
  have k : (h.push (.lst (ds.map .int))).cut (max h.cs.length (max h.lim (h.cs.length + 1))) = h.push (.lst (ds.map .int)) := cut_ge (by rw [push_len]; omega)
  unfold f_depths_of s_depths_of cD at *
  simp [w, push_lim, push_len, k, -push_ap]
theorem depths_bad {is : List Ins} {h : PH} (l : is.length ≤ 100000) (q : ∀ ds, dep is 0 [] ≠ some (ds, 0)) (hl : h.lim ≤ h.cs.length) : f_depths_of [cD is] h = .exc "FormError" h := by
  cases e : dep is 0 [] with
  | none =>
    obtain ⟨e', a', w⟩ := (dep_l (h := h) (x0 := some (cD is)) is 0 [] none (by simpa using l)).2 e
    have w : forV (.one 3) b_depths_of_0 (h.cs.length + 1) (is.map iD) [some (cD is), some (.ref h.cs.length), some (.int 0), none] (h.push (.lst [])) = _ := w
    have k := cut1 (h := h) (c := a') hl
    unfold f_depths_of s_depths_of cD at *
    simp [w, push_lim, push_len, k, -push_ap]
  | some r =>
    obtain ⟨ds, d⟩ := r
    have nz : d ≠ 0 := fun z => q ds (by rw [e, z])
    obtain ⟨x', w⟩ := (dep_l (h := h) (x0 := some (cD is)) is 0 [] none (by simpa using l)).1 ds d e
    have w : forV (.one 3) b_depths_of_0 (h.cs.length + 1) (is.map iD) [some (cD is), some (.ref h.cs.length), some (.int 0), none] (h.push (.lst [])) = _ := w
    unfold f_depths_of s_depths_of cD at *
    simp [w, push_lim, push_len, nz, -push_ap]
    simp [push_cut, cut_len, hl, -push_ap]
/-! ### skips -/
def skp (is : List Ins) : Nat → Nat → Int → Option Int
  | 0, _, d => some d
  | n + 1, k, d => match is[k]? with
    | none => none
    | some i => if (if nmI i = "loop" then d + 1 else if nmI i = "end" then d - 1 else d) < 0 then none else skp is n (k + 1) (if nmI i = "loop" then d + 1 else if nmI i = "end" then d - 1 else d)
theorem cD_ix {is : List Ins} {k : Nat} {i : Ins} (q : is[k]? = some i) {h : PH} : ixF (.tup (is.map iD)) (.int (k : Int)) h = .ok (iD i) h := by
  rw [ixF_tupO, Dy.atI_nat, List.getElem?_map, q]; rfl
theorem skp_step {is : List Ins} {h : PH} {x1 : Option D} {k : Nat} {d : Int} :
    b_check_skip_0 [some (cD is), x1, some (.int d), some (.int (k : Int))] h = match is[k]? with
      | none => .exc "FormError" [some (cD is), x1, some (.int d), some (.int (k : Int))] h
      | some i => if (if nmI i = "loop" then d + 1 else if nmI i = "end" then d - 1 else d) < 0 then .exc "FormError" [some (cD is), x1, some (.int (if nmI i = "loop" then d + 1 else if nmI i = "end" then d - 1 else d)), some (.int (k : Int))] h
        else .nxt [some (cD is), x1, some (.int (if nmI i = "loop" then d + 1 else if nmI i = "end" then d - 1 else d)), some (.int (k : Int))] h := by
  unfold b_check_skip_0 cD
  cases q : is[k]? with
  | none =>
    have c : (is.length : Int) ≤ (k : Int) := by have := List.getElem?_eq_none_iff.mp q; omega
    simp [c]
  | some i =>
    have c : ¬ (is.length : Int) ≤ (k : Int) := by have := (List.getElem?_eq_some_iff.mp q).1; omega
    have ix := fun h => cD_ix (h := h) q
    by_cases c1 : nmI i = "loop"
    · by_cases c2 : d + 1 < 0
      · simp [c, ix, nm_ix, c1, c2, -ixF_tupO]
      · simp [c, ix, nm_ix, c1, c2, -ixF_tupO]
    · by_cases c3 : nmI i = "end"
      · have ne : ¬ ("end" : Str) = "loop" := by decide +kernel
        by_cases c2 : d - 1 < 0
        · simp [c, ix, nm_ix, c3, c2, ne, -ixF_tupO]
        · simp [c, ix, nm_ix, c3, c2, ne, -ixF_tupO]
      · by_cases c2 : d < 0
        · simp [c, ix, nm_ix, c1, c3, c2, -ixF_tupO]
        · simp [c, ix, nm_ix, c1, c3, c2, -ixF_tupO]
theorem skp_l {is : List Ins} {h : PH} {x1 : Option D} : ∀ (n k : Nat) (d : Int) (x : Option D),
    (∀ d', skp is n k d = some d' → ∃ x', forV (.one 3) b_check_skip_0 h.cs.length (rangeD (k : Int) 1 n) [some (cD is), x1, some (.int d), x] h = .nxt [some (cD is), x1, some (.int d'), x'] h) ∧
    (skp is n k d = none → ∃ e', forV (.one 3) b_check_skip_0 h.cs.length (rangeD (k : Int) 1 n) [some (cD is), x1, some (.int d), x] h = .exc "FormError" e' h) := by
  intro n
  induction n with
  | zero => intro k d x; exact ⟨fun d' q => (by cases q; exact ⟨x, rfl⟩), fun q => (by cases q)⟩
  | succ n ih =>
    intro k d x
    have st := skp_step (is := is) (h := h) (x1 := x1) (k := k) (d := d)
    rw [rangeD_cons, forV_cons, tgt_one, tgtO_some]
    show (∀ d', skp is (n + 1) k d = some d' → ∃ x', (b_check_skip_0 [some (cD is), x1, some (.int d), some (.int (k : Int))] h).nextV _ _ _ _ = _) ∧ (skp is (n + 1) k d = none → ∃ e', (b_check_skip_0 [some (cD is), x1, some (.int d), some (.int (k : Int))] h).nextV _ _ _ _ = _)
    rw [st]
    unfold skp
    cases q : is[k]? with
    | none => exact ⟨fun d' q => (by cases q), fun _ => ⟨_, rfl⟩⟩
    | some i =>
      simp only []
      by_cases c : (if nmI i = "loop" then d + 1 else if nmI i = "end" then d - 1 else d) < 0
      · rw [if_pos c, if_pos c]
        exact ⟨fun d' q => (by cases q), fun _ => ⟨_, rfl⟩⟩
      · rw [if_neg c, if_neg c, nextV_nxt, gc_max (Nat.le_refl _)]
        exact ih (k + 1) _ _
def skOk (is : List Ins) (at_ : Nat) (n : Int) : Bool := decide (skp is n.toNat (at_ + 1) 0 = some 0)
theorem skip_ap {is : List Ins} {at_ : Nat} {v n : Int} {h : PH} (l : is.length ≤ 100000) (q : is[at_]? = some (.skip v n)) (b : n < 1000000000000000) (hl : h.lim ≤ h.cs.length) :
    f_check_skip [cD is, .int (at_ : Int)] h = if skOk is at_ n = true then .ok .non h else .exc "FormError" h := by
  have lt := (List.getElem?_eq_some_iff.mp q).1
  have ix := fun h => cD_ix (h := h) q
  have i2 : ∀ h, ixF (iD (.skip v n)) (.int 2) h = .ok (.int n) h := fun h => by kernel_rfl
  have rg : ∀ h, rangeF2 [.int ((at_ : Int) + 1), .int ((at_ : Int) + 1 + (if n > 0 then n else 0))] h = .ok (.vals (rangeD (((at_ + 1 : Nat)) : Int) 1 n.toNat)) h := fun h => by
    rw [range2 ⟨in62_lit (by omega) (by omega), in62_lit (by split <;> omega) (by split <;> omega)⟩]
    congr 3
    split <;> omega
  obtain ⟨w1, w2⟩ := skp_l (is := is) (h := h) (x1 := some (.int (at_ : Int))) n.toNat (at_ + 1) 0 none
  have cst : ((at_ + 1 : Nat) : Int) = (at_ : Int) + 1 := by omega
  rw [cst] at w1 w2
  simp only [cst] at rg
  unfold f_check_skip s_check_skip skOk
  unfold cD at *
  cases e : skp is n.toNat (at_ + 1) 0 with
  | none =>
    obtain ⟨e', w⟩ := w2 e
    simp [ix, i2, rg, w, hl, -ixF_tupO, -range2]
  | some d' =>
    obtain ⟨x', w⟩ := w1 d' e
    by_cases c : d' = 0
    · simp [ix, i2, rg, w, hl, c, -ixF_tupO, -range2]
    · simp [ix, i2, rg, w, hl, c, -ixF_tupO, -range2]
/-! ### steps -/
/-- never below nought, at nought in the end, never too deep -/
def Dp : List Ins → Nat → Prop
  | [], d => d = 0
  | i :: r, d => if nmI i = "end" then 1 ≤ d ∧ Dp r (d - 1) else if nmI i = "loop" then d + 1 ≤ 17 ∧ Dp r (d + 1) else Dp r d
def cntOk : Ins → Prop
  | .loop _ _ _ c => 1 ≤ c ∧ c ≤ 1000
  | _ => True
/-- the totals of the levels, after k instructions -/
def TB (k : Nat) (ts : List Int) : Prop := ∀ (j : Nat) (t : Int), ts[j]? = some t → 0 ≤ t ∧ t ≤ 2 ^ k * 2002 ^ (18 - j)
def CB (cs : List Int) : Prop := ∀ c ∈ cs, 1 ≤ c ∧ c ≤ 1000
def hp2 (h : PH) (ts cs : List Int) : PH := (h.push (.lst (ts.map .int))).push (.lst (cs.map .int))
section
variable {h : PH} {ts cs ts' cs' : List Int}
theorem hp2_len : (hp2 h ts cs).cs.length = h.cs.length + 2 := by unfold hp2; rw [push_len, push_len]
theorem hp2_t : (hp2 h ts cs).at h.cs.length = some (.lst (ts.map .int)) := by unfold hp2; rw [push_lt (by rw [push_len]; omega)]; exact push_at
theorem hp2_c : (hp2 h ts cs).at (h.cs.length + 1) = some (.lst (cs.map .int)) := by unfold hp2; rw [← push_len (h := h) (c := .lst (ts.map .int))]; exact push_at
theorem hp2_putt : (hp2 h ts cs).put h.cs.length (.lst (ts'.map .int)) = hp2 h ts' cs := by
  unfold PH.put
  rw [if_pos (by rw [mrI]; omega)]
  unfold hp2
  show PH.mk ((h.cs ++ [Cell.lst (ts.map .int)] ++ [Cell.lst (cs.map .int)]).set h.cs.length _) _ = PH.mk (h.cs ++ [Cell.lst (ts'.map .int)] ++ [Cell.lst (cs.map .int)]) _
  rw [List.append_assoc, List.append_assoc, List.set_append_right _ _ (Nat.le_refl _), Nat.sub_self]
  rfl
theorem hp2_putc : (hp2 h ts cs).put (h.cs.length + 1) (.lst (cs'.map .int)) = hp2 h ts cs' := by
  unfold PH.put
  rw [if_pos (by rw [mrI]; omega)]
  unfold hp2
  show PH.mk ((h.cs ++ [Cell.lst (ts.map .int)] ++ [Cell.lst (cs.map .int)]).set (h.cs.length + 1) _) _ = PH.mk (h.cs ++ [Cell.lst (ts.map .int)] ++ [Cell.lst (cs'.map .int)]) _
  have e : h.cs.length + 1 = (h.cs ++ [Cell.lst (ts.map .int)]).length := by rw [List.length_append]; rfl
  rw [e, List.set_append_right _ _ (Nat.le_refl _), Nat.sub_self]
  rfl
theorem hp2_cut {m : Nat} (q : m ≤ h.cs.length) : (hp2 h ts cs).cut (max h.cs.length m) = h := cut2 q
end
theorem popF_at {h : PH} {n : Nat} {ds : List D} {d : D} (hn : h.at n = some (.lst (ds ++ [d]))) : popF (.ref n) [] h = .ok d (h.put n (.lst ds)) := by
  have e1 : refLst h (.ref n) = some (n, ds ++ [d]) := by
    show (match h.cs[n]? with | some (.lst ds) => some (n, ds) | _ => none) = _
    have : h.cs[n]? = some (.lst (ds ++ [d])) := hn
    rw [this]
  unfold popF
  rw [e1]
  simp
theorem ixN_last {n : Nat} : ixN (n + 1) (-1) = some n := by
  unfold ixN
  rw [if_neg (by omega), if_pos (by omega)]
  congr 1
  omega
theorem atI_last {ds : List D} {d : D} : atI (ds ++ [d]) (-1) = some d := by
  unfold atI
  rw [List.length_append]
  show (ixN (ds.length + 1) (-1)).bind _ = _
  rw [ixN_last]
  simp
theorem snocI {l : List Int} (q : 1 ≤ l.length) : ∃ r x, l = r ++ [x] := snoc_of (by intro z; rw [z] at q; simp at q)
theorem st_loop {h : PH} {x0 x4 : Option D} {v s t c : Int} {ts cs : List Int} (l : ts.length ≤ 100) (l2 : cs.length ≤ 100) :
    b_steps_in_0 [x0, some (.ref h.cs.length), some (.ref (h.cs.length + 1)), some (iD (.loop v s t c)), x4] (hp2 h ts cs) = .nxt [x0, some (.ref h.cs.length), some (.ref (h.cs.length + 1)), some (iD (.loop v s t c)), x4] (hp2 h (ts ++ [0]) (cs ++ [c])) := by
  have a1 : appF (.ref h.cs.length) [.int 0] (hp2 h ts cs) = .ok .non (hp2 h (ts ++ [0]) cs) := by
    rw [app_ap hp2_t (by rw [List.length_map]; omega), show ts.map D.int ++ [.int 0] = (ts ++ [0]).map D.int by simp, hp2_putt]
  have a2 : appF (.ref (h.cs.length + 1)) [.int c] (hp2 h (ts ++ [0]) cs) = .ok .non (hp2 h (ts ++ [0]) (cs ++ [c])) := by
    rw [app_ap hp2_c (by rw [List.length_map]; omega), show cs.map D.int ++ [.int c] = (cs ++ [c]).map D.int by simp, hp2_putc]
  have n0 : ∀ h, ixF (iD (.loop v s t c)) (.int 0) h = .ok (.str "loop") h := fun h => by kernel_rfl
  have n4 : ∀ h, ixF (iD (.loop v s t c)) (.int 4) h = .ok (.int c) h := fun h => by kernel_rfl
  have i1 := is_lst (hp2_t (h := h) (ts := ts) (cs := cs))
  have i2 := is_lst (hp2_c (h := h) (ts := ts ++ [0]) (cs := cs))
  unfold b_steps_in_0
  simp [n0, n4, a1, a2, i1, i2, -appF_refO]
theorem st_end {h : PH} {x0 x4 : Option D} {ts cs tz : List Int} {t u c : Int} (ez : tz = ts ++ [t] ++ [u]) (s1 : sm c) (s2 : sm (u + 1)) :
    b_steps_in_0 [x0, some (.ref h.cs.length), some (.ref (h.cs.length + 1)), some (iD .fin), x4] (hp2 h tz (cs ++ [c])) = .nxt [x0, some (.ref h.cs.length), some (.ref (h.cs.length + 1)), some (iD .fin), some (.int u)] (hp2 h (ts ++ [t + 1 + c * (u + 1)]) cs) := by
  have p1 : popF (.ref h.cs.length) [] (hp2 h tz (cs ++ [c])) = .ok (.int u) (hp2 h (ts ++ [t]) (cs ++ [c])) := by
    rw [popF_at (ds := (ts ++ [t]).map D.int) (by rw [hp2_t, ez, List.map_append]; rfl), hp2_putt]
  have p2 : popF (.ref (h.cs.length + 1)) [] (hp2 h (ts ++ [t]) (cs ++ [c])) = .ok (.int c) (hp2 h (ts ++ [t]) cs) := by
    rw [popF_at (ds := cs.map D.int) (by rw [hp2_c, List.map_append]; rfl), hp2_putc]
  have n0 : ∀ h, ixF (iD .fin) (.int 0) h = .ok (.str "end") h := fun h => by kernel_rfl
  have i1 := is_lst (hp2_t (h := h) (ts := tz) (cs := cs ++ [c]))
  have i2 := is_lst (hp2_c (h := h) (ts := ts ++ [t]) (cs := cs ++ [c]))
  have g : ixF (.ref h.cs.length) (.int (-1)) (hp2 h (ts ++ [t]) (cs ++ [c])) = .ok (.int t) (hp2 h (ts ++ [t]) (cs ++ [c])) := by
    rw [ixF_refO, hp2_t, List.map_append]
    show okO (atI (ts.map D.int ++ [.int t]) (-1)) _ = _
    rw [atI_last]; rfl
  have st : ∀ e : Dy.Env, setO (.ref h.cs.length) (.int (-1)) (.int (t + 1 + c * (u + 1))) e (hp2 h (ts ++ [t]) cs) = .nxt e (hp2 h (ts ++ [t + 1 + c * (u + 1)]) cs) := fun e => by
    rw [setO_refO, hp2_t]
    show setJ (ixN ((ts ++ [t]).map D.int).length (-1)) _ = _
    rw [List.length_map, List.length_append]
    show setJ (ixN (ts.length + 1) (-1)) _ = _
    rw [ixN_last, setJ_some, show ((ts ++ [t]).map D.int).set ts.length (.int (t + 1 + c * (u + 1))) = (ts ++ [t + 1 + c * (u + 1)]).map D.int by simp, hp2_putt]
  have ne : ¬ ("end" : Str) = "loop" := by decide +kernel
  unfold b_steps_in_0
  simp [n0, p1, p2, i1, i2, g, st, ne, s1, s2, -ixF_refO, -setO_refO]
theorem st_other {h : PH} {x0 x4 : Option D} {i : Ins} {ts cs : List Int} {t : Int} (c1 : nmI i ≠ "loop") (c2 : nmI i ≠ "end") :
    b_steps_in_0 [x0, some (.ref h.cs.length), some (.ref (h.cs.length + 1)), some (iD i), x4] (hp2 h (ts ++ [t]) cs) = .nxt [x0, some (.ref h.cs.length), some (.ref (h.cs.length + 1)), some (iD i), x4] (hp2 h (ts ++ [t + 1]) cs) := by
  have g : ixF (.ref h.cs.length) (.int (-1)) (hp2 h (ts ++ [t]) cs) = .ok (.int t) (hp2 h (ts ++ [t]) cs) := by
    rw [ixF_refO, hp2_t, List.map_append]
    show okO (atI (ts.map D.int ++ [.int t]) (-1)) _ = _
    rw [atI_last]; rfl
  have st : ∀ e : Dy.Env, setO (.ref h.cs.length) (.int (-1)) (.int (t + 1)) e (hp2 h (ts ++ [t]) cs) = .nxt e (hp2 h (ts ++ [t + 1]) cs) := fun e => by
    rw [setO_refO, hp2_t]
    show setJ (ixN ((ts ++ [t]).map D.int).length (-1)) _ = _
    rw [List.length_map, List.length_append]
    show setJ (ixN (ts.length + 1) (-1)) _ = _
    rw [ixN_last, setJ_some, show ((ts ++ [t]).map D.int).set ts.length (.int (t + 1)) = (ts ++ [t + 1]).map D.int by simp, hp2_putt]
  unfold b_steps_in_0
  simp [nm_ix, c1, c2, g, st, -ixF_refO, -setO_refO]
/-- totals and counts behind some instructions -/
def stS : List Ins → List Int → List Int → List Int × List Int
  | [], ts, cs => (ts, cs)
  | .loop _ _ _ c :: r, ts, cs => stS r (ts ++ [0]) (cs ++ [c])
  | .fin :: r, ts, cs => stS r (ts.dropLast.dropLast ++ [ts.dropLast.getLastD 0 + 1 + cs.getLastD 0 * (ts.getLastD 0 + 1)]) cs.dropLast
  | _ :: r, ts, cs => stS r (ts.dropLast ++ [ts.getLastD 0 + 1]) cs
theorem stS_loop {v s t c : Int} {r : List Ins} {ts cs : List Int} : stS (.loop v s t c :: r) ts cs = stS r (ts ++ [0]) (cs ++ [c]) := rfl
theorem stS_fin {r : List Ins} {ts cs : List Int} {t u c : Int} : stS (.fin :: r) (ts ++ [t] ++ [u]) (cs ++ [c]) = stS r (ts ++ [t + 1 + c * (u + 1)]) cs := by
  show stS r ((ts ++ [t] ++ [u]).dropLast.dropLast ++ [(ts ++ [t] ++ [u]).dropLast.getLastD 0 + 1 + (cs ++ [c]).getLastD 0 * ((ts ++ [t] ++ [u]).getLastD 0 + 1)]) (cs ++ [c]).dropLast = _
  simp only [List.dropLast_concat, List.getLastD_concat]
theorem stS_other {i : Ins} {r : List Ins} {ts cs : List Int} {t : Int} (c1 : nmI i ≠ "loop") (c2 : nmI i ≠ "end") : stS (i :: r) (ts ++ [t]) cs = stS r (ts ++ [t + 1]) cs := by
  have z : stS r ((ts ++ [t]).dropLast ++ [(ts ++ [t]).getLastD 0 + 1]) cs = stS r (ts ++ [t + 1]) cs := by
    simp only [List.dropLast_concat, List.getLastD_concat]
  cases i <;> first | exact z | exact absurd rfl c1 | exact absurd rfl c2
theorem steps_l {h : PH} {x0 : Option D} : ∀ (is : List Ins) (d k : Nat) (ts cs : List Int) (x3 x4 : Option D), k + is.length ≤ 3000 → Dp is d → d ≤ 17 → ts.length = d + 1 → cs.length = d + 1 → (∀ i ∈ is, cntOk i) → TB k ts → CB cs →
    ∃ (t : Int) (cs' : List Int) (x3' x4' : Option D), (stS is ts cs = ([t], cs')) ∧ forV (.one 3) b_steps_in_0 (h.cs.length + 2) (is.map iD) [x0, some (.ref h.cs.length), some (.ref (h.cs.length + 1)), x3, x4] (hp2 h ts cs) = .nxt [x0, some (.ref h.cs.length), some (.ref (h.cs.length + 1)), x3', x4'] (hp2 h [t] cs') := by
  intro is
  induction is with
  | nil =>
    intro d k ts cs x3 x4 _ dp _ l1 l2 _ _ _
    have d0 : d = 0 := dp
    subst d0
    match ts, l1 with
    | [t], _ => exact ⟨t, cs, x3, x4, rfl, rfl⟩
  | cons i is ih =>
    intro d k ts cs x3 x4 lk dp d17 l1 l2 co tb cb
    rw [List.length_cons] at lk
    have go : ∀ (d2 : Nat) (ts2 cs2 : List Int) (x42 : Option D), b_steps_in_0 [x0, some (.ref h.cs.length), some (.ref (h.cs.length + 1)), some (iD i), x4] (hp2 h ts cs) = .nxt [x0, some (.ref h.cs.length), some (.ref (h.cs.length + 1)), some (iD i), x42] (hp2 h ts2 cs2) → Dp is d2 → d2 ≤ 17 → ts2.length = d2 + 1 → cs2.length = d2 + 1 → TB (k + 1) ts2 → CB cs2 → stS (i :: is) ts cs = stS is ts2 cs2 →
        ∃ (t : Int) (cs' : List Int) (x3' x4' : Option D), (stS (i :: is) ts cs = ([t], cs')) ∧ forV (.one 3) b_steps_in_0 (h.cs.length + 2) ((i :: is).map iD) [x0, some (.ref h.cs.length), some (.ref (h.cs.length + 1)), x3, x4] (hp2 h ts cs) = .nxt [x0, some (.ref h.cs.length), some (.ref (h.cs.length + 1)), x3', x4'] (hp2 h [t] cs') := fun d2 ts2 cs2 x42 q a1 a2 a3 a4 a5 a6 a7 => by
      obtain ⟨t, cs', x3', x4', w0, w⟩ := ih d2 (k + 1) ts2 cs2 (some (iD i)) x42 (by omega) a1 a2 a3 a4 (fun j hj => co j (List.mem_cons_of_mem _ hj)) a5 a6
      refine ⟨t, cs', x3', x4', a7.trans w0, ?_⟩
      rw [List.map_cons, forV_cons, tgt_one, tgtO_some]
      show (b_steps_in_0 [x0, some (.ref h.cs.length), some (.ref (h.cs.length + 1)), some (iD i), x4] (hp2 h ts cs)).nextV _ _ _ _ = _
      rw [q, nextV_nxt, gc_max (by rw [hp2_len]; exact Nat.le_refl _)]
      exact w
    have p2 : ∀ m : Nat, (0 : Int) < 2 ^ m := fun m => Int.pow_pos (by decide)
    have p3 : ∀ m : Nat, (0 : Int) < 2002 ^ m := fun m => Int.pow_pos (by decide)
    have e2 : (2 : Int) ^ (k + 1) = 2 ^ k * 2 := Int.pow_succ ..
    have mono : ∀ (j : Nat) (t : Int), t ≤ 2 ^ k * 2002 ^ (18 - j) → t + 1 ≤ 2 ^ (k + 1) * 2002 ^ (18 - j) := fun j t q => by
      have a : (1 : Int) ≤ 2 ^ k * 2002 ^ (18 - j) := Int.mul_pos (p2 k) (p3 _)
      rw [e2, Int.mul_assoc, Int.mul_comm 2, ← Int.mul_assoc]
      omega
    have mono0 : ∀ (j : Nat) (t : Int), t ≤ 2 ^ k * 2002 ^ (18 - j) → t ≤ 2 ^ (k + 1) * 2002 ^ (18 - j) := fun j t q => by have := mono j t q; omega
    by_cases c1 : nmI i = "loop"
    · obtain ⟨v, s, t, c, rfl⟩ : ∃ v s t c, i = .loop v s t c := by
        cases i <;> first | exact ⟨_, _, _, _, rfl⟩ | (exfalso; simp [nmI] at c1)
      have ne : ¬ nmI (.loop v s t c) = "end" := by simp [nmI]
      unfold Dp at dp
      rw [if_neg ne, if_pos c1] at dp
      refine go (d + 1) _ _ _ (st_loop (by omega) (by omega)) dp.2 dp.1 (by rw [List.length_append, l1]; rfl) (by rw [List.length_append, l2]; rfl) (fun j u hu => ?_) (fun u hu => ?_) stS_loop
      · by_cases lt : j < ts.length
        · rw [List.getElem?_append_left lt] at hu
          obtain ⟨b1, b2⟩ := tb j u hu
          exact ⟨b1, mono0 j u b2⟩
        · have hj : j < (ts ++ [0]).length := (List.getElem?_eq_some_iff.mp hu).1
          rw [List.length_append] at hj
          have : j = ts.length := by simp at hj; omega
          subst this
          rw [List.getElem?_append_right (Nat.le_refl _), Nat.sub_self] at hu
          have : u = 0 := by simpa using hu.symm
          subst this
          exact ⟨by omega, Int.le_of_lt (Int.mul_pos (p2 _) (p3 _))⟩
      · rcases List.mem_append.mp hu with hu | hu
        · exact cb u hu
        · rw [List.mem_singleton.mp hu]; exact co _ List.mem_cons_self
    · by_cases c2 : nmI i = "end"
      · obtain rfl : i = .fin := by
          cases i <;> first | rfl | (exfalso; simp [nmI] at c2)
        unfold Dp at dp
        rw [if_pos c2] at dp
        obtain ⟨d1, dp⟩ := dp
        obtain ⟨r, u, rfl⟩ := snocI (l := ts) (by omega)
        have lr : r.length = d := by rw [List.length_append] at l1; simp at l1; omega
        obtain ⟨r2, t, rfl⟩ := snocI (l := r) (by omega)
        obtain ⟨cs2, c, rfl⟩ := snocI (l := cs) (by omega)
        have lr2 : r2.length + 1 = d := by rw [List.length_append] at lr; simpa using lr
        have lc2 : cs2.length = d := by rw [List.length_append] at l2; simp at l2; omega
        obtain ⟨u1, u2⟩ := tb d u (by rw [List.getElem?_append_right (by omega), lr, Nat.sub_self]; rfl)
        obtain ⟨t1, t2⟩ := tb (d - 1) t (by rw [List.getElem?_append_left (by omega), List.getElem?_append_right (by omega), show d - 1 - r2.length = 0 by omega]; rfl)
        obtain ⟨c1', c2'⟩ := cb c (by simp)
        have sc : sm c := sm_lt (by omega) (by omega)
        have su : sm (u + 1) := by
          have b := mono d u u2
          have h1 : (2 : Nat) ^ (k + 1) ≤ 2 ^ 3001 := Nat.pow_le_pow_right (by decide) (by omega)
          have h2 : (2002 : Nat) ^ (18 - d) ≤ 2 ^ 200 := Nat.le_trans (Nat.pow_le_pow_right (by decide) (show 18 - d ≤ 18 by omega)) (by decide +kernel)
          have h3 := Nat.mul_le_mul h1 h2
          rw [← Nat.pow_add] at h3
          have ec : (2 : Int) ^ (k + 1) * 2002 ^ (18 - d) = (((2 : Nat) ^ (k + 1) * 2002 ^ (18 - d) : Nat) : Int) := by
            rw [Int.natCast_mul, Int.natCast_pow, Int.natCast_pow]; rfl
          rw [ec] at b
          generalize (2 : Nat) ^ (k + 1) * 2002 ^ (18 - d) = N at *
          refine sm_of (n := 3202) (Nat.lt_of_le_of_lt (show (u + 1).natAbs ≤ N by omega) (Nat.lt_of_le_of_lt h3 (Nat.pow_lt_pow_right (by decide) (by decide)))) (by omega)
        refine go (d - 1) _ _ _ (st_end rfl sc su) dp (by omega) (by rw [List.length_append]; simp; omega) (by omega) (fun j w hw => ?_) (fun w hw => cb w (List.mem_append_left _ hw)) stS_fin
        by_cases lt : j < r2.length
        · rw [List.getElem?_append_left lt] at hw
          obtain ⟨b1, b2⟩ := tb j w (by rw [List.getElem?_append_left (by omega), List.getElem?_append_left lt]; exact hw)
          exact ⟨b1, mono0 j w b2⟩
        · have hj : j < (r2 ++ [t + 1 + c * (u + 1)]).length := (List.getElem?_eq_some_iff.mp hw).1
          rw [List.length_append] at hj
          have ej : j = r2.length := by simp at hj; omega
          subst ej
          rw [List.getElem?_append_right (Nat.le_refl _), Nat.sub_self] at hw
          have ew : w = t + 1 + c * (u + 1) := by simpa using hw.symm
          subst ew
          have cu1 : 0 ≤ c * (u + 1) := Int.mul_nonneg (by omega) (by omega)
          have cu2 : c * (u + 1) ≤ 1000 * (u + 1) := Int.mul_le_mul_of_nonneg_right c2' (by omega)
          refine ⟨by omega, ?_⟩
          have ed : 18 - r2.length = (18 - d) + 1 := by omega
          rw [show d - 1 = r2.length by omega, ed, Int.pow_succ] at t2
          rw [ed, e2, Int.pow_succ]
          have Y : (1 : Int) ≤ 2 ^ k * 2002 ^ (18 - d) := Int.mul_pos (p2 k) (p3 _)
          have r1 : (2 : Int) ^ k * (2002 ^ (18 - d) * 2002) = 2002 * (2 ^ k * 2002 ^ (18 - d)) := by rw [← Int.mul_assoc, Int.mul_comm]
          have r3 : (2 : Int) ^ k * 2 * (2002 ^ (18 - d) * 2002) = 4004 * (2 ^ k * 2002 ^ (18 - d)) := by
            rw [Int.mul_assoc, ← Int.mul_assoc 2, Int.mul_comm 2, Int.mul_assoc, ← Int.mul_assoc]
            rw [show (2 : Int) * 2002 = 4004 by decide, Int.mul_comm]
          rw [r1] at t2
          rw [r3]
          generalize (2 : Int) ^ k * 2002 ^ (18 - d) = Z at *
          omega
      · obtain ⟨r, t, rfl⟩ := snocI (l := ts) (by omega)
        unfold Dp at dp
        rw [if_neg c2, if_neg c1] at dp
        refine go d _ _ _ (st_other c1 c2) dp d17 (by rw [List.length_append] at l1 ⊢; exact l1) l2 (fun j w hw => ?_) cb (stS_other c1 c2)
        by_cases lt : j < r.length
        · rw [List.getElem?_append_left lt] at hw
          obtain ⟨b1, b2⟩ := tb j w (by rw [List.getElem?_append_left lt]; exact hw)
          exact ⟨b1, mono0 j w b2⟩
        · have hj : j < (r ++ [t + 1]).length := (List.getElem?_eq_some_iff.mp hw).1
          rw [List.length_append] at hj
          have ej : j = r.length := by simp at hj; omega
          subst ej
          rw [List.getElem?_append_right (Nat.le_refl _), Nat.sub_self] at hw
          have ew : w = t + 1 := by simpa using hw.symm
          subst ew
          obtain ⟨b1, b2⟩ := tb r.length t (by rw [List.getElem?_append_right (Nat.le_refl _), Nat.sub_self]; rfl)
          exact ⟨by omega, mono _ _ b2⟩
theorem steps_ap {is : List Ins} {h : PH} (l : is.length ≤ 3000) (dp : Dp is 0) (co : ∀ i ∈ is, cntOk i) (hl : h.lim ≤ h.cs.length) : ∃ (t : Int) (cs : List Int), stS is [0] [1] = ([t], cs) ∧ f_steps_in [cD is] h = .ok (.int t) h := by
  obtain ⟨t, cs', x3, x4, w0, w⟩ := steps_l (h := h) (x0 := some (cD is)) is 0 0 [0] [1] none none (by omega) dp (by omega) rfl rfl co (fun j u hu => by
    match j, hu with
    | 0, hu => have : u = 0 := by simpa using hu.symm
               subst this
               exact ⟨by omega, Int.le_of_lt (Int.mul_pos (by decide) (Int.pow_pos (by decide)))⟩) (fun c hc => by rw [List.mem_singleton.mp hc]; omega)
  refine ⟨t, cs', w0, ?_⟩
  have g : ixF (.ref h.cs.length) (.int 0) (hp2 h [t] cs') = .ok (.int t) (hp2 h [t] cs') := by
    rw [ixF_refO, hp2_t]
    show okO (atI [D.int t] 0) _ = _
    rw [at0]; rfl
  have k := hp2_cut (h := h) (ts := [t]) (cs := cs') hl
  have s1 : ∀ l : List D, (h.push (.lst [.int 0])).push (.lst [.int 1]) = hp2 h [0] [1] := fun _ => rfl
  unfold f_steps_in s_steps_in
  unfold cD at *
  have n2 : (h.push (.lst [.int 0])).cs.length = h.cs.length + 1 := push_len
  simp [n2, s1 [], hp2_len, w, g, -push_ap, -ixF_refO]
  exact k
end Lk47

set_option exponentiation.threshold 5000
namespace Lk47
open PySem PySem.Spec PyProof.Rows L2 Dy
def SB : Ins → Prop
  | .skip _ n => n < 1000000000000000
  | _ => True
def skA (is : List Ins) : Bool := (List.range is.length).all fun k => match is[k]? with
  | some (.skip _ n) => skOk is k n
  | _ => true
def stV (is : List Ins) : Int := (stS is [0] [1]).1.headD 0
def chk (a d e : Int) (is : List Ins) : Option Str :=
  if is.all wf = true then (match dep is 0 [] with
    | some (ds, d') => if d' = 0 then (if skA is = true then (if is.all (ir a d e) = true then (if 4000000 < (is.length : Int) ∨ 16 < maxI (0 :: ds) ∨ 1000000000 < stV is then some "TooLarge" else none) else some "RangeError") else some "FormError") else some "FormError"
    | none => some "FormError") else some "FormError"
def errR (o : Option Str) (h : PH) : Res D := match o with
  | some c => .exc c h
  | none => .ok .non h
section
variable {a b c d e : Int} {h : PH} {x1 x3 x4 : Option D}
theorem wf_l (hl : h.lim ≤ h.cs.length) : ∀ (is : List Ins), (∀ i ∈ is, Ty i) → ∀ x : Option D,
    (is.all wf = true → ∃ x', forV (.one 2) b_check_code_2 h.cs.length (is.map iD) [some (M a b c d e), x1, x, x3, x4] h = .nxt [some (M a b c d e), x1, x', x3, x4] h) ∧
    (is.all wf = false → ∃ e', forV (.one 2) b_check_code_2 h.cs.length (is.map iD) [some (M a b c d e), x1, x, x3, x4] h = .exc "FormError" e' h) := by
  intro is
  induction is with
  | nil => intro _ x; exact ⟨fun _ => ⟨x, rfl⟩, fun q => (by cases q)⟩
  | cons i is ih =>
    intro t x
    have w := wf_ap (h := h) (t i List.mem_cons_self) hl
    obtain ⟨i1, i2⟩ := ih (fun j hj => t j (List.mem_cons_of_mem _ hj)) (some (iD i))
    rw [List.map_cons, forV_cons, tgt_one, tgtO_some]
    show ((wf i && is.all wf) = true → ∃ x', (b_check_code_2 [some (M a b c d e), x1, some (iD i), x3, x4] h).nextV _ _ _ _ = _) ∧ ((wf i && is.all wf) = false → ∃ e', (b_check_code_2 [some (M a b c d e), x1, some (iD i), x3, x4] h).nextV _ _ _ _ = _)
    cases q : wf i with
    | false =>
      have b : b_check_code_2 [some (M a b c d e), x1, some (iD i), x3, x4] h = .exc "FormError" [some (M a b c d e), x1, some (iD i), x3, x4] h := by
        unfold b_check_code_2
        simp [w, q]
      rw [b]
      exact ⟨fun z => (by cases z), fun _ => ⟨_, rfl⟩⟩
    | true =>
      have b : b_check_code_2 [some (M a b c d e), x1, some (iD i), x3, x4] h = .nxt [some (M a b c d e), x1, some (iD i), x3, x4] h := by
        unfold b_check_code_2
        simp [w, q]
      rw [b, nextV_nxt, gc_max (Nat.le_refl _)]
      exact ⟨fun z => i1 z, fun z => i2 z⟩
theorem ir_l (g : GM a b c d e) (hl : h.lim ≤ h.cs.length) : ∀ (is : List Ins), (∀ i ∈ is, Ty i ∧ wf i = true) → ∀ x : Option D,
    (is.all (ir a d e) = true → ∃ x', forV (.one 2) b_check_code_0 h.cs.length (is.map iD) [some (M a b c d e), x1, x, x3, x4] h = .nxt [some (M a b c d e), x1, x', x3, x4] h) ∧
    (is.all (ir a d e) = false → ∃ e', forV (.one 2) b_check_code_0 h.cs.length (is.map iD) [some (M a b c d e), x1, x, x3, x4] h = .exc "RangeError" e' h) := by
  intro is
  induction is with
  | nil => intro _ x; exact ⟨fun _ => ⟨x, rfl⟩, fun q => (by cases q)⟩
  | cons i is ih =>
    intro t x
    have w := ir_ap (h := h) g (t i List.mem_cons_self).1 (t i List.mem_cons_self).2 hl
    obtain ⟨i1, i2⟩ := ih (fun j hj => t j (List.mem_cons_of_mem _ hj)) (some (iD i))
    rw [List.map_cons, forV_cons, tgt_one, tgtO_some]
    show ((ir a d e i && is.all (ir a d e)) = true → ∃ x', (b_check_code_0 [some (M a b c d e), x1, some (iD i), x3, x4] h).nextV _ _ _ _ = _) ∧ ((ir a d e i && is.all (ir a d e)) = false → ∃ e', (b_check_code_0 [some (M a b c d e), x1, some (iD i), x3, x4] h).nextV _ _ _ _ = _)
    cases q : ir a d e i with
    | false =>
      have b : b_check_code_0 [some (M a b c d e), x1, some (iD i), x3, x4] h = .exc "RangeError" [some (M a b c d e), x1, some (iD i), x3, x4] h := by
        unfold b_check_code_0
        simp [w, q]
      rw [b]
      exact ⟨fun z => (by cases z), fun _ => ⟨_, rfl⟩⟩
    | true =>
      have b : b_check_code_0 [some (M a b c d e), x1, some (iD i), x3, x4] h = .nxt [some (M a b c d e), x1, some (iD i), x3, x4] h := by
        unfold b_check_code_0
        simp [w, q]
      rw [b, nextV_nxt, gc_max (Nat.le_refl _)]
      exact ⟨fun z => i1 z, fun z => i2 z⟩
def skK (is : List Ins) (k : Nat) : Bool := match is[k]? with
  | some (.skip _ n) => skOk is k n
  | _ => true
theorem sk_step {is : List Ins} {x0 x2 : Option D} (l : is.length ≤ 100000) (sb : ∀ i ∈ is, SB i) (hl : h.lim ≤ h.cs.length) {k : Nat} (lt : k < is.length) :
    b_check_code_1 [x0, some (cD is), x2, x3, some (.int (k : Int))] h = if skK is k = true then .nxt [x0, some (cD is), x2, x3, some (.int (k : Int))] h else .exc "FormError" [x0, some (cD is), x2, x3, some (.int (k : Int))] h := by
  have q : is[k]? = some is[k] := List.getElem?_eq_getElem lt
  have ix := fun h => cD_ix (h := h) q
  have s1 := sb _ (List.mem_of_getElem? q)
  unfold b_check_code_1 skK
  rw [q]
  generalize is[k] = i at *
  by_cases c1 : nmI i = "skip"
  · obtain ⟨v, n, rfl⟩ : ∃ v n, i = .skip v n := by
      cases i <;> first | exact ⟨_, _, rfl⟩ | (exfalso; simp [nmI] at c1)
    have sp := skip_ap l q s1 hl
    unfold cD at *
    cases c : skOk is k n <;> simp [ix, nm_ix, c1, sp, c, -ixF_tupO]
  · have z : (match (some i : Option Ins) with | some (.skip _ n) => skOk is k n | _ => true) = true := by
      cases i <;> first | rfl | exact absurd rfl c1
    rw [z]
    unfold cD at *
    simp [ix, nm_ix, c1, -ixF_tupO]
theorem sk_l {is : List Ins} {x0 x2 : Option D} (l : is.length ≤ 100000) (sb : ∀ i ∈ is, SB i) (hl : h.lim ≤ h.cs.length) : ∀ (n k : Nat) (x : Option D), k + n = is.length →
    ((∀ j, k ≤ j → j < is.length → skK is j = true) → ∃ x', forV (.one 4) b_check_code_1 h.cs.length (rangeD (k : Int) 1 n) [x0, some (cD is), x2, x3, x] h = .nxt [x0, some (cD is), x2, x3, x'] h) ∧
    ((∃ j, k ≤ j ∧ j < is.length ∧ skK is j = false) → ∃ e', forV (.one 4) b_check_code_1 h.cs.length (rangeD (k : Int) 1 n) [x0, some (cD is), x2, x3, x] h = .exc "FormError" e' h) := by
  intro n
  induction n with
  | zero => intro k x e; exact ⟨fun _ => ⟨x, rfl⟩, fun ⟨j, h1, h2, _⟩ => by omega⟩
  | succ n ih =>
    intro k x e
    have st := sk_step (h := h) (x3 := x3) (x0 := x0) (x2 := x2) l sb hl (k := k) (by omega)
    obtain ⟨i1, i2⟩ := ih (k + 1) (some (.int (k : Int))) (by omega)
    rw [show ((k + 1 : Nat) : Int) = (k : Int) + 1 by omega] at i1 i2
    rw [rangeD_cons, forV_cons, tgt_one, tgtO_some]
    show ((∀ j, k ≤ j → j < is.length → skK is j = true) → ∃ x', (b_check_code_1 [x0, some (cD is), x2, x3, some (.int (k : Int))] h).nextV _ _ _ _ = _) ∧ ((∃ j, k ≤ j ∧ j < is.length ∧ skK is j = false) → ∃ e', (b_check_code_1 [x0, some (cD is), x2, x3, some (.int (k : Int))] h).nextV _ _ _ _ = _)
    rw [st]
    cases q : skK is k with
    | false =>
      exact ⟨fun z => (by rw [z k (Nat.le_refl _) (by omega)] at q; cases q), fun _ => ⟨_, rfl⟩⟩
    | true =>
      rw [if_pos rfl, nextV_nxt, gc_max (Nat.le_refl _)]
      refine ⟨fun z => i1 fun j h1 h2 => z j (by omega) h2, fun ⟨j, h1, h2, h3⟩ => i2 ⟨j, ?_, h2, h3⟩⟩
      by_cases c : j = k
      · subst c; rw [q] at h3; cases h3
      · omega
end
/-! ### the whole look -/
theorem maxF_ap {h : PH} {n : Nat} {x : Int} {xs : List Int} (hn : h.at n = some (.lst ((x :: xs).map D.int))) : max1F (.ref n) h = .ok (.int (maxI (x :: xs))) h := by
  show (match itemsL h (.ref n) with | some ds => (match intsOf ds with | some (n :: ns) => Res.ok (D.int (maxI (n :: ns))) h | _ => .stuck) | none => .stuck) = _
  rw [itemsL_ref, hn]
  show (match intsOf ((x :: xs).map D.int) with | some (n :: ns) => Res.ok (D.int (maxI (n :: ns))) h | _ => .stuck) = _
  rw [intsOf_map]
theorem dep_mono : ∀ (is : List Ins) (d : Int) (acc ds : List Int) (d' : Int), dep is d acc = some (ds, d') → (∃ r, ds = acc ++ r) ∧ ds.length = acc.length + is.length
  | [], d, acc, ds, d', q => by cases q; exact ⟨⟨[], by simp⟩, by simp⟩
  | i :: is, d, acc, ds, d', q => by
    unfold dep at q
    split at q
    · split at q
      · cases q
      · obtain ⟨⟨r, e⟩, l⟩ := dep_mono is _ _ ds d' q
        exact ⟨⟨[d - 1] ++ r, by rw [e, List.append_assoc]⟩, by rw [l]; simp; omega⟩
    · split at q
      · obtain ⟨⟨r, e⟩, l⟩ := dep_mono is _ _ ds d' q
        exact ⟨⟨[d] ++ r, by rw [e, List.append_assoc]⟩, by rw [l]; simp; omega⟩
      · obtain ⟨⟨r, e⟩, l⟩ := dep_mono is _ _ ds d' q
        exact ⟨⟨[d] ++ r, by rw [e, List.append_assoc]⟩, by rw [l]; simp; omega⟩
theorem dep_Dp : ∀ (is : List Ins) (d : Nat) (acc ds : List Int), dep is (d : Int) acc = some (ds, 0) → (∀ x ∈ ds, x ≤ 16) → Dp is d
  | [], d, acc, ds, q, _ => by
    have : (d : Int) = 0 := by cases q; rfl
    show d = 0
    omega
  | i :: is, d, acc, ds, q, b => by
    unfold dep at q
    unfold Dp
    split at q
    · rename_i c
      rw [if_pos c]
      split at q
      · cases q
      · have e : (d : Int) - 1 = ((d - 1 : Nat) : Int) := by omega
        rw [e] at q
        exact ⟨by omega, dep_Dp is (d - 1) _ ds q b⟩
    · rename_i c
      rw [if_neg c]
      split at q
      · rename_i c2
        rw [if_pos c2]
        have e : (d : Int) + 1 = ((d + 1 : Nat) : Int) := by omega
        rw [e] at q
        obtain ⟨⟨r, er⟩, _⟩ := dep_mono is _ _ ds 0 q
        have := b (d : Int) (by rw [er]; simp)
        exact ⟨by omega, dep_Dp is (d + 1) _ ds q b⟩
      · rename_i c2
        rw [if_neg c2]
        exact dep_Dp is d _ ds q b
theorem ir_cnt {a d e : Int} {i : Ins} (q : ir a d e i = true) : cntOk i := by
  cases i with
  | loop v s t c =>
    unfold ir own lir inb at q
    simp at q
    exact q.2.2.1
  | _ => trivial
def MX : EM := nA (Dy.f1 max1F) (consA (b2E addF (nA lstF (consA (cE (.int 0)) (nilA))) (vE 3)) (nilA))
theorem s_check_code_al : s_check_code = seqS (exprS (nA (callF 1 f_check_machine) (consA (vE 0) (nilA)))) (seqS (forS (srcE (vE 1)) (.one 2) b_check_code_2) (seqS (asgS (nA (callF 1 f_depths_of) (consA (vE 1) (nilA))) (.one 3)) (seqS (forS (rngE rangeF1 (consA (nA (Dy.f1 lenF) (consA (vE 1) (nilA))) (nilA))) (.one 4) b_check_code_1) (seqS (forS (srcE (vE 1)) (.one 2) b_check_code_0) (seqS (ifS (orT (tbT (b2E gtF (nA (Dy.f1 lenF) (consA (vE 1) (nilA))) (cE c_CODE_LIMIT))) (orT (tbT (b2E gtF (MX) (cE c_NEST_LIMIT))) (tbT (b2E gtF (nA (callF 1 f_steps_in) (consA (vE 1) (nilA))) (cE c_EXECUTION_LIMIT))))) (seqS (raiseS "TooLarge") (nextS)) (nextS)) (nextS)))))) := rfl
theorem cut3 {h : PH} {c c' c'' : Cell} {m : Nat} (q : m ≤ h.cs.length) : (((h.push c).push c').push c'').cut (max h.cs.length m) = h := by rw [push_cut (by rw [push_len, push_len]; omega)]; exact cut2 q
theorem mx_ap {x0 x1 x2 x4 : Option D} {h : PH} {ds : List Int} (l : ds.length ≤ 1000000) : MX [x0, x1, x2, some (.ref h.cs.length), x4] (h.push (.lst (ds.map .int))) = .ok (.int (maxI (0 :: ds))) (((h.push (.lst (ds.map .int))).push (.lst [.int 0])).push (.lst ((0 :: ds).map .int))) := by
  have a : addF (.ref (h.push (.lst (ds.map .int))).cs.length) (.ref h.cs.length) ((h.push (.lst (ds.map .int))).push (.lst [.int 0])) = .ok (.ref ((h.push (.lst (ds.map .int))).push (.lst [.int 0])).cs.length) (((h.push (.lst (ds.map .int))).push (.lst [.int 0])).push (.lst ((0 :: ds).map .int))) := by
    have := ladd_ap (h := (h.push (.lst (ds.map .int))).push (.lst [.int 0])) (m := (h.push (.lst (ds.map .int))).cs.length) (n := h.cs.length) (xs := [.int 0]) (ys := ds.map .int) push_at (by rw [push_lt (by rw [push_len]; omega)]; exact push_at) (by rw [List.length_map]; simp; omega)
    exact this
  have m : max1F (.ref ((h.push (.lst (ds.map .int))).push (.lst [.int 0])).cs.length) (((h.push (.lst (ds.map .int))).push (.lst [.int 0])).push (.lst ((0 :: ds).map .int))) = _ := maxF_ap push_at
  unfold MX
  simp [a, -push_ap]
  exact m
theorem bif_exc {a b : Prop} [Decidable a] [Decidable b] : (decide a || decide b) = decide (a ∨ b) := by simp
theorem cc_ap {a b c d e : Int} {is : List Ins} {h : PH} (g : GM a b c d e) (l : is.length ≤ 3000) (ty : ∀ i ∈ is, Ty i) (sb : ∀ i ∈ is, SB i) (hl : h.lim ≤ h.cs.length) : f_check_code [M a b c d e, cD is] h = errR (chk a d e is) h := by
  have cm := check_ap (h := h) g hl
  obtain ⟨w1, w2⟩ := wf_l (a := a) (b := b) (c := c) (d := d) (e := e) (x1 := some (cD is)) (x3 := none) (x4 := none) hl is ty none
  have en : ([M a b c d e, cD is].map some ++ List.replicate (5 - 2) none : Dy.Env) = [some (M a b c d e), some (cD is), none, none, none] := rfl
  have src : ∀ h x2 x3 x4, srcE (vE 1) [some (M a b c d e), some (cD is), x2, x3, x4] h = .ok (.vals (is.map iD)) h := fun h x2 x3 x4 => rfl
  unfold f_check_code chk
  rw [s_check_code_al]
  cases q1 : is.all wf with
  | false =>
    obtain ⟨e', w⟩ := w2 q1
    simp [cm, src, w, hl, errR, -srcE_ap]
  | true =>
    obtain ⟨x2, w⟩ := w1 q1
    rw [if_pos rfl]
    have tw : ∀ i ∈ is, Ty i ∧ wf i = true := fun i hi => ⟨ty i hi, List.all_eq_true.mp q1 i hi⟩
    by_cases q2 : ∃ ds, dep is 0 [] = some (ds, 0)
    · obtain ⟨ds, q2⟩ := q2
      rw [q2]
      simp only [if_true]
      have dk := depths_ok (h := h) (by omega) q2 hl
      have hl1 := push_ok (c := .lst (ds.map .int)) hl
      have rg : ∀ h, rangeF1 [.int (is.length : Int)] h = .ok (.vals (rangeD 0 1 is.length)) h := fun h => by rw [range1 (in62_lit (by omega) (by omega)), Int.toNat_natCast]
      obtain ⟨s1, s2⟩ := sk_l (h := h.push (.lst (ds.map .int))) (x3 := some (.ref h.cs.length)) (is := is) (x0 := some (M a b c d e)) (x2 := x2) (by omega) sb hl1 is.length 0 none (by omega)
      have le : ∀ h, lenF (cD is) h = .ok (.int (is.length : Int)) h := fun h => by unfold cD; rw [lenF_tup, List.length_map]
      have skE : skA is = (List.range is.length).all (skK is) := rfl
      cases q3 : skA is with
      | false =>
        have ex : ∃ j, 0 ≤ j ∧ j < is.length ∧ skK is j = false := by
          rw [skE] at q3
          obtain ⟨j, hj, h2⟩ := List.all_eq_false.mp q3
          exact ⟨j, Nat.zero_le _, List.mem_range.mp hj, by simpa using h2⟩
        obtain ⟨e', w3⟩ := s2 ex
        have k1 := cut1 (h := h) (c := .lst (ds.map .int)) hl
        have w3 : forV (.one 4) b_check_code_1 (h.cs.length + 1) (rangeD 0 1 is.length) [some (M a b c d e), some (cD is), x2, some (.ref h.cs.length), none] (h.push (.lst (ds.map .int))) = .exc "FormError" e' (h.push (.lst (ds.map .int))) := by rw [← push_len (h := h) (c := .lst (ds.map .int))]; exact w3
        simp [cm, src, w, dk, le, rg, w3, push_len, push_lim, hl, errR, -srcE_ap, -push_ap, -range1, -lenF_tup]
        rw [push_cut (Nat.le_refl _), cut_len]
      | true =>
        have al : ∀ j, 0 ≤ j → j < is.length → skK is j = true := fun j _ hj => by
          rw [skE] at q3
          exact List.all_eq_true.mp q3 j (List.mem_range.mpr hj)
        obtain ⟨x4, w3⟩ := s1 al
        have w3 : forV (.one 4) b_check_code_1 (h.cs.length + 1) (rangeD 0 1 is.length) [some (M a b c d e), some (cD is), x2, some (.ref h.cs.length), none] (h.push (.lst (ds.map .int))) = .nxt [some (M a b c d e), some (cD is), x2, some (.ref h.cs.length), x4] (h.push (.lst (ds.map .int))) := by rw [← push_len (h := h) (c := .lst (ds.map .int))]; exact w3
        obtain ⟨r1, r2⟩ := ir_l (h := h.push (.lst (ds.map .int))) (x1 := some (cD is)) (x3 := some (.ref h.cs.length)) (x4 := x4) g hl1 is tw x2
        rw [push_len] at r1 r2
        cases q4 : is.all (ir a d e) with
        | false =>
          obtain ⟨e', w4⟩ := r2 q4
          simp [cm, src, w, dk, le, rg, w3, w4, push_len, push_lim, hl, errR, -srcE_ap, -push_ap, -range1, -lenF_tup]
          rw [push_cut (Nat.le_refl _), cut_len]
        | true =>
          obtain ⟨x2', w4⟩ := r1 q4
          have dl : ds.length ≤ 1000000 := by rw [(dep_mono is 0 [] ds 0 q2).2]; simp; omega
          have mx := mx_ap (x0 := some (M a b c d e)) (x1 := some (cD is)) (x2 := x2') (x4 := x4) (h := h) dl
          have n1 : ¬ (4000000 : Int) < (is.length : Int) := by omega
          generalize hA : Cell.lst (ds.map D.int) = A at *
          generalize hB : Cell.lst ((0 :: ds).map D.int) = B at *
          have k3 := cut3 (h := h) (c := A) (c' := .lst [.int 0]) (c'' := B) (m := h.lim) hl
          have k3' : (((h.push A).push (.lst [.int 0])).push B).cut h.cs.length = h := by have := k3; rw [Nat.max_eq_left hl] at this; exact this
          simp only [n1, false_or]
          by_cases q5 : 16 < maxI (0 :: ds)
          · simp [cm, src, w, dk, le, rg, w3, w4, mx, n1, q5, push_len, push_lim, hl, k3', errR, c_CODE_LIMIT, c_NEST_LIMIT, -srcE_ap, -push_ap, -range1, -lenF_tup]
          · have b16 : ∀ x ∈ ds, x ≤ 16 := fun x hx => by
              have := (maxI_spec (ns := 0 :: ds) (by simp)).2 x (List.mem_cons_of_mem _ hx)
              omega
            have dp := dep_Dp is 0 [] ds q2 b16
            obtain ⟨t, cs', v0, sv⟩ := steps_ap (h := ((h.push A).push (.lst [.int 0])).push B) l dp (fun i hi => ir_cnt (List.all_eq_true.mp q4 i hi)) (push_ok (push_ok hl1))
            have v1 : stV is = t := by unfold stV; rw [v0]; rfl
            simp only [v1, q5, false_or]
            by_cases q6 : 1000000000 < t
            · simp [cm, src, w, dk, le, rg, w3, w4, mx, n1, q5, sv, q6, push_len, push_lim, hl, k3', errR, c_CODE_LIMIT, c_NEST_LIMIT, c_EXECUTION_LIMIT, -srcE_ap, -push_ap, -range1, -lenF_tup]
            · simp [cm, src, w, dk, le, rg, w3, w4, mx, n1, q5, sv, q6, push_len, push_lim, hl, k3', errR, c_CODE_LIMIT, c_NEST_LIMIT, c_EXECUTION_LIMIT, -srcE_ap, -push_ap, -range1, -lenF_tup]
    · have dk := depths_bad (h := h) (is := is) (by omega) (fun ds z => q2 ⟨ds, z⟩) hl
      have z : (match dep is 0 [] with | some (ds, d') => if d' = 0 then (if skA is = true then (if is.all (ir a d e) = true then (if 4000000 < (is.length : Int) ∨ 16 < maxI (0 :: ds) ∨ 1000000000 < stV is then some ("TooLarge" : Str) else none) else some "RangeError") else some "FormError") else some "FormError" | none => some "FormError") = some ("FormError" : Str) := by
        cases e1 : dep is 0 [] with
        | none => rfl
        | some r =>
          obtain ⟨ds, d'⟩ := r
          have : d' ≠ 0 := fun z => q2 ⟨ds, by rw [e1, z]⟩
          simp [this]
      rw [z]
      simp [cm, src, w, dk, hl, errR, -srcE_ap]
end Lk47

set_option exponentiation.threshold 5000
namespace Lk47
open PySem PySem.Spec PyProof.Rows L2 Dy
/-! ### numbers as words -/
theorem ri_loop {h : PH} {x0 x1 x2 : Option D} : ∀ (d : List Nat) (x3 : Option D), ∃ x3', forV (.one 3) b_read_integer_0 h.cs.length (Dy.signs (SS d)) [x0, x1, x2, x3] h = (if AllD d then .nxt [x0, x1, x2, x3'] h else .ret .non h) := by
  intro d
  induction d with
  | nil => intro x3; exact ⟨x3, rfl⟩
  | cons c r ih =>
    intro x3
    obtain ⟨x3', w⟩ := ih (some (.str (SS [c])))
    refine ⟨x3', ?_⟩
    rw [signsS] at w ⊢
    rw [List.map_cons, forV_cons, tgt_one, tgtO_some]
    show (b_read_integer_0 [x0, x1, x2, some (.str (SS [c]))] h).nextV _ _ _ _ = _
    have ni : ∀ h, notInF (.str (SS [c])) c_FIGURES h = .ok (.bl (!decide (48 ≤ c ∧ c ≤ 57))) h := fun h => by
      unfold c_FIGURES
      rw [s_figs, notInS]
      simp only [figs_mem]
    have b : b_read_integer_0 [x0, x1, x2, some (.str (SS [c]))] h = (if 48 ≤ c ∧ c ≤ 57 then .nxt [x0, x1, x2, some (.str (SS [c]))] h else .ret .non h) := by
      unfold b_read_integer_0
      by_cases q : 48 ≤ c ∧ c ≤ 57
      · rw [decide_eq_true q] at ni
        simp [ni, q]
      · rw [decide_eq_false q] at ni
        rw [if_neg q]
        simp [ni]
    rw [b]
    by_cases q : 48 ≤ c ∧ c ≤ 57
    · rw [if_pos q, nextV_nxt, gc_max (Nat.le_refl _), w]
      by_cases q2 : AllD r
      · rw [if_pos q2, if_pos (allD_cons.mpr ⟨q, q2⟩)]
      · rw [if_neg q2, if_neg fun z => q2 (allD_cons.mp z).2]
    · rw [if_neg q, if_neg fun z => q (allD_cons.mp z).1]; rfl
def tailRI : SM := seqS (ifS (orT (tbT (b2E eqF (vE 2) (cE (.str "")))) (tbT (b2E gtF (nA (Dy.f1 lenF) (consA (vE 2) (nilA))) (vE 1)))) (seqS (retS (cE (.non))) (nextS)) (nextS)) (seqS (forS (srcE (vE 2)) (.one 3) b_read_integer_0) (seqS (ifS (andT (tbT (b2E eqF (b2E ixF (vE 2) (cE (.int 0))) (cE (.str "0")))) (orT (tbT (b2E gtF (nA (Dy.f1 lenF) (consA (vE 2) (nilA))) (cE (.int 1)))) (tbT (b2E gtF (nA (Dy.f1 lenF) (consA (vE 0) (nilA))) (cE (.int 1)))))) (seqS (retS (cE (.non))) (nextS)) (nextS)) (seqS (retS (nA (Dy.f1 intF) (consA (vE 0) (nilA)))) (nextS))))
theorem s_ri_eq : s_read_integer = seqS (asgS (vE 0) (.one 2)) (seqS (ifS (tbT (b2E eqF (slE (vE 0) (noO) (someO (cE (.int 1)))) (cE (.str "-")))) (seqS (asgS (slE (vE 0) (someO (cE (.int 1))) (noO)) (.one 2)) (nextS)) (nextS)) tailRI) := rfl
theorem tail_ap {w d : List Nat} {v : Int} {h : PH} (lw : w.length ≤ 100000) (ld : d.length ≤ w.length) (iv : d ≠ [] → d.length ≤ 90 → AllD d → ∀ h, intF (.str (SS w)) h = .ok (.int v) h) :
    tailRI [some (.str (SS w)), some (.int 90), some (.str (SS d)), none] h = .ret (optN (if d ≠ [] ∧ d.length ≤ 90 ∧ AllD d ∧ ¬ (d.head? = some 48 ∧ 1 < w.length) then some v else none)) h := by
  obtain ⟨x3', lo⟩ := ri_loop (h := h) (x0 := some (.str (SS w))) (x1 := some (.int 90)) (x2 := some (.str (SS d))) d none
  have e0 : ∀ h, eqF (.str (SS d)) (.str "") h = .ok (.bl (decide (d = []))) h := fun h => by rw [s_empty, eqS]
  have l1 : ∀ h, lenF (.str (SS w)) h = .ok (.int (w.length : Int)) h := fun h => lenS (by omega)
  have l2 : ∀ h, lenF (.str (SS d)) h = .ok (.int (d.length : Int)) h := fun h => lenS (by omega)
  unfold tailRI
  cases d with
  | nil =>
    simp [e0, optN, -eqF_str]
  | cons c r =>
    have e0 : ∀ h, eqF (.str (SS (c :: r))) (.str "") h = .ok (.bl false) h := fun h => by rw [e0, decide_eq_false (by simp)]
    by_cases c7 : (c :: r).length ≤ 90
    · have c4 : ¬ (90 : Int) < ((c :: r).length : Int) := by omega
      by_cases ad : AllD (c :: r)
      · rw [if_pos ad] at lo
        have iv2 := iv (by simp) c7 ad
        have ix : ∀ h, ixF (.str (SS (c :: r))) (.int 0) h = .ok (.str (SS [c])) h := fun h => ixS (k := 0) rfl (by omega) (by omega)
        have e1 : ∀ h, eqF (.str (SS [c])) (.str "0") h = .ok (.bl (decide (c = 48))) h := fun h => by
          rw [s_zero, eqS]
          simp
        by_cases c48 : c = 48
        · subst c48
          by_cases lw1 : 1 < w.length
          · have g2 : (1 : Int) < (w.length : Int) := by omega
            rw [if_neg fun z => z.2.2.2 ⟨by simp, lw1⟩]
            generalize ((48 :: r).length : Int) = L at *
            simp [e0, l1, l2, c4, lo, ix, e1, g2, optN, -eqF_str, -lenF_str]
          · have g2 : ¬ (1 : Int) < (w.length : Int) := by omega
            have g3 : ¬ (1 : Int) < ((48 :: r).length : Int) := by omega
            rw [if_pos ⟨by simp, c7, ad, fun z => lw1 z.2⟩]
            generalize ((48 :: r).length : Int) = L at *
            simp [e0, l1, l2, c4, lo, ix, e1, g2, g3, iv2, optN, -eqF_str, -lenF_str]
        · rw [if_pos ⟨by simp, c7, ad, fun z => c48 (by simpa using z.1)⟩]
          generalize ((c :: r).length : Int) = L at *
          simp [e0, l1, l2, c4, lo, ix, e1, c48, iv2, optN, -eqF_str, -lenF_str]
      · rw [if_neg ad] at lo
        rw [if_neg fun z => ad z.2.2.1]
        generalize ((c :: r).length : Int) = L at *
        simp [e0, l1, l2, c4, lo, optN, -eqF_str, -lenF_str]
    · have c4 : (90 : Int) < ((c :: r).length : Int) := by omega
      rw [if_neg fun z => c7 z.2.1]
      generalize ((c :: r).length : Int) = L at *
      simp [e0, l1, l2, c4, optN, -eqF_str, -lenF_str]
theorem mr_optN (o : Option Int) : (optN o).mr = 0 := by cases o <;> rfl
theorem ri_ap {w : List Nat} {h : PH} (lw : w.length ≤ 100000) (hh : h.lim ≤ h.cs.length) : f_read_integer [.str (SS w), .int 90] h = .ok (optN (RI 90 w)) h := by
  have t1 : ∀ h, slF (.str (SS w)) none (some 1) h = .ok (.str (SS (w.take 1))) h := fun h => slS_to (by omega) (by omega)
  have t2 : ∀ h, slF (.str (SS w)) (some 1) none h = .ok (.str (SS (w.drop 1))) h := fun h => slS_from (by omega) (by omega)
  have e1 : ∀ h, eqF (.str (SS (w.take 1))) (.str "-") h = .ok (.bl (decide (w.take 1 = [45]))) h := fun h => by rw [s_minus, eqS]
  have mo := mr_optN
  unfold f_read_integer
  rw [s_ri_eq]
  by_cases c : w.take 1 = [45]
  · obtain ⟨r, rfl⟩ : ∃ r, w = 45 :: r := by
      cases w with
      | nil => simp at c
      | cons x r => exact ⟨r, by simpa using c⟩
    have ta := tail_ap (w := 45 :: r) (d := r) (v := -(valD r : Int)) (h := h) lw (by simp) (fun ne l7 ad h => intS_neg ad ne (by omega))
    have e : RI 90 (45 :: r) = (if r ≠ [] ∧ r.length ≤ 90 ∧ AllD r ∧ ¬ (r.head? = some 48 ∧ 1 < (45 :: r).length) then some (-(valD r : Int)) else none) := rfl
    rw [← e] at ta
    rw [decide_eq_true c] at e1
    rw [show (45 :: r).drop 1 = r from rfl] at t2
    rw [show (45 :: r).take 1 = [45] from rfl] at t1 e1
    simp [t1, t2, e1, ta, mo, hh, -eqF_str]
  · have dg : dig w = w := if_neg c
    have ta := tail_ap (w := w) (d := w) (v := (valD w : Int)) (h := h) lw (Nat.le_refl _) (fun ne l7 ad h => intS ad ne (by omega))
    have e : RI 90 w = (if w ≠ [] ∧ w.length ≤ 90 ∧ AllD w ∧ ¬ (w.head? = some 48 ∧ 1 < w.length) then some ((valD w : Int)) else none) := by
      have q1 : riOk 90 w ↔ (w ≠ [] ∧ w.length ≤ 90 ∧ AllD w ∧ ¬ (w.head? = some 48 ∧ 1 < w.length)) := by unfold riOk; rw [dg]
      have q2 : wval w = (valD w : Int) := by unfold wval; rw [if_neg c, dg]
      unfold RI
      rw [q2]
      by_cases q : riOk 90 w
      · rw [if_pos q, if_pos (q1.mp q)]
      · rw [if_neg q, if_neg fun z => q (q1.mpr z)]
    rw [← e] at ta
    rw [decide_eq_false c] at e1
    simp [t1, t2, e1, ta, mo, hh, -eqF_str]
theorem num_ap {w : List Nat} {h : PH} (lw : w.length ≤ 100000) (hl : h.lim ≤ h.cs.length) : f_number_in [.str (SS w)] h = match RI 90 w with
    | some n => .ok (.int n) h
    | none => .exc "TextError" h := by
  have r := ri_ap (h := h) lw hl
  unfold f_number_in s_number_in c_FIGURE_LIMIT
  cases q : RI 90 w with
  | none => rw [q] at r; simp [r, optN, hl]
  | some n => rw [q] at r; simp [r, optN, hl]
theorem pw_in {k : Str} {h : PH} : notInF (.str k) c_POINTWISE h = .ok (.bl (!decide (k ∈ PW))) h := by
  have e0 : inB (.str k) c_POINTWISE h = some ((PW.map D.str).any fun d => eqFl d (.str k)) := by
    have c : flatD (.str k) = true ∧ (PW.map D.str).all flatD = true := ⟨rfl, by rfl⟩
    unfold inB
    show (if flatD (.str k) = true ∧ (PW.map D.str).all flatD = true then _ else _) = _
    rw [if_pos c]
    rfl
  have e : inB (.str k) c_POINTWISE h = some (decide (k ∈ PW)) := by
    rw [e0]
    congr 1
    rw [List.any_map]
    by_cases c : k ∈ PW
    · rw [decide_eq_true c]
      exact List.any_eq_true.mpr ⟨k, c, by show (k == k) = true; exact beq_self_eq_true k⟩
    · rw [decide_eq_false c]
      refine List.any_eq_false.mpr fun x hx => ?_
      show ¬ (x == k) = true
      intro z
      rw [beq_iff_eq] at z
      exact c (z ▸ hx)
  unfold notInF
  rw [e]
theorem kind_ap {k : Str} {h : PH} (hl : h.lim ≤ h.cs.length) : f_kind_in [.str k] h = if k ∈ PW then .ok (.str k) h else .exc "TextError" h := by
  unfold f_kind_in s_kind_in
  by_cases c : k ∈ PW
  · simp [pw_in, c, hl]
  · simp [pw_in, c, hl]
@[simp] theorem cp2_exc {h : PH} {c : Str} {t : Tgt} {tst : TM} {elt : EM} {e0 : Dy.Env} {n : Nat} {ds : List D} : (Res.exc c h : Res D).cp2 t tst elt e0 n ds = .exc c h := rfl
/-- the integers of some words -/
def numsW : List (List Nat) → Option (List Int)
  | [] => some []
  | w :: r => match RI 90 w with
    | some n => (match numsW r with
      | some ns => some (n :: ns)
      | none => none)
    | none => none
def sD (ws : List (List Nat)) : List D := ws.map fun w => D.str (SS w)
theorem nums_c {elt : EM} {e0 : Dy.Env} {i : Nat} {h : PH} (hl : h.lim ≤ h.cs.length) : ∀ (ws : List (List Nat)), (∀ w ∈ ws, w.length ≤ 100000) → (∀ w ∈ ws, elt (e0.set i (some (.str (SS w)))) h = f_number_in [.str (SS w)] h) →
    compV (.one i) yesT elt e0 (sD ws) h = match numsW ws with
      | some ns => .ok (ns.map .int) h
      | none => .exc "TextError" h
  | [], _, _ => rfl
  | w :: r, lw, H => by
    have a := H w List.mem_cons_self
    rw [num_ap (lw w List.mem_cons_self) hl] at a
    have ih := nums_c hl r (fun x hx => lw x (List.mem_cons_of_mem _ hx)) (fun x hx => H x (List.mem_cons_of_mem _ hx))
    show compV (.one i) yesT elt e0 (D.str (SS w) :: sD r) h = _
    rw [compV_cons, tgt_one, compT_some, yesT_ap, cp1_true, a]
    unfold numsW
    cases q : RI 90 w with
    | none => rfl
    | some n =>
      simp only []
      rw [cp2_ok, mr_int, cut_ge (by omega), ih]
      cases numsW r <;> rfl
theorem compL_cell {t : Tgt} {elt : EM} {e0 : Dy.Env} {X : PH} {n : Nat} {xs : List D} (hn : X.at n = some (.lst xs)) (hl : X.lim ≤ X.cs.length) (H : ∀ d ∈ xs, ∃ e1, tgt t d e0 X = some e1 ∧ ((∃ v, elt e1 X = .ok v X ∧ v.mr = 0) ∨ ∃ c, elt e1 X = .exc c X)) :
    ∀ f i, i + f = xs.length + 1 → i ≤ xs.length → compL t yesT elt (.cell n) e0 f i X = compV t yesT elt e0 (xs.drop i) X := by
  intro f
  induction f with
  | zero => intro i q z; omega
  | succ f ih =>
    intro i q z
    have it : (Src.cell n).item i X = some xs[i]? := item_cell hn
    by_cases hi : i < xs.length
    · have e9 : xs[i]? = some xs[i] := List.getElem?_eq_getElem hi
      obtain ⟨e1, h1, h2⟩ := H _ (List.getElem_mem hi)
      rw [List.drop_eq_getElem_cons hi, compV, compL, it, e9]
      simp only [h1]
      show (Res.ok true X).bind _ = (Res.ok true X).bind _
      rw [bind_ok, bind_ok]
      simp only []
      rcases h2 with ⟨v, h2, m0⟩ | ⟨c, h2⟩
      · rw [h2, bind_ok, bind_ok, m0, cut_ge (by omega), ih (i + 1) (by omega) (by omega)]
      · rw [h2]; rfl
    · rw [List.drop_eq_nil_of_le (by omega), compL, it, List.getElem?_eq_none (by omega)]
      rfl
/-- .. in a comprehension -/
theorem nums_x {m : EM} {elt : EM} {e : Dy.Env} {i : Nat} {h X : PH} {n : Nat} {ws : List (List Nat)} (hm : m e h = .ok (.ref n) X) (hn : X.at n = some (.lst (sD ws))) (hl : X.lim ≤ X.cs.length) (lw : ∀ w ∈ ws, w.length ≤ 100000) (l : ws.length ≤ 100000)
    (H : ∀ w ∈ ws, ∀ Y : PH, elt ((e.set i none).set i (some (.str (SS w)))) Y = f_number_in [.str (SS w)] Y) : compXE (srcE m) [i] (.one i) yesT elt e h = match numsW ws with
      | some ns => .ok (.ref X.cs.length) (X.push (.lst (ns.map .int)))
      | none => .exc "TextError" X := by
  have src : srcE m e h = .ok (.cell n) X := by
    rw [srcE_ap, hm, bind_ok, srcF_ref, hn]; rfl
  have fu : (Src.cell n).fuel X = (sD ws).length + 1 := by
    show (match X.cs[n]? with | some (.lst ds) => ds.length + 1 | _ => 0) = _
    rw [show X.cs[n]? = some (.lst (sD ws)) from hn]
  have c := nums_c (elt := elt) (e0 := e.set i none) (i := i) (h := X) hl ws lw (fun w hw => H w hw X)
  have cl := compL_cell (t := .one i) (elt := elt) (e0 := e.set i none) hn hl (fun d hd => by
    obtain ⟨w, hw, rfl⟩ := List.mem_map.mp hd
    refine ⟨_, tgt_one, ?_⟩
    rw [H w hw X, num_ap (lw w hw) hl]
    cases RI 90 w with
    | none => exact .inr ⟨_, rfl⟩
    | some n => exact .inl ⟨_, rfl, rfl⟩) ((sD ws).length + 1) 0 (by omega) (by omega)
  rw [List.drop_zero, c] at cl
  have ll : (sD ws).length = ws.length := by unfold sD; rw [List.length_map]
  rw [compXE_fr, src]
  show fXA ((Src.cell n).fuel X) [] (compL (.one i) yesT elt (.cell n) (e.set i none) ((Src.cell n).fuel X) 0 X) = _
  rw [fu, cl]
  cases q : numsW ws with
  | none =>
    show fXA _ [] (Res.exc "TextError" X) = _
    exact flX_exc (by rw [ll]; omega)
  | some ns =>
    have ln : ∀ (ws : List (List Nat)) (ns : List Int), numsW ws = some ns → ns.length = ws.length := by
      intro ws
      induction ws with
      | nil => intro ns q; cases q; rfl
      | cons w r ih =>
        intro ns q
        unfold numsW at q
        split at q
        · split at q
          · cases q; simp [ih _ (by assumption)]
          · cases q
        · cases q
    have := ln ws ns q
    show fXA _ [] (Res.ok (ns.map D.int) X) = _
    exact flX_ok (by rw [List.length_map]; omega)
end Lk47

set_option exponentiation.threshold 5000
namespace Lk47
open PySem PySem.Spec PyProof.Rows L2 Dy
/-! ### cuts of lists of words -/
theorem sD_len {ws : List (List Nat)} : (sD ws).length = ws.length := by unfold sD; rw [List.length_map]
theorem sD_drop {ws : List (List Nat)} {n : Nat} : (sD ws).drop n = sD (ws.drop n) := by unfold sD; rw [List.map_drop]
theorem sD_take {ws : List (List Nat)} {n : Nat} : (sD ws).take n = sD (ws.take n) := by unfold sD; rw [List.map_take]
theorem cut_mid {ws : List (List Nat)} {a b : Nat} : Dy.cutD (sD ws) (some (a : Int)) (some (b : Int)) = sD ((ws.drop a).take (b - a)) := by
  unfold Dy.cutD
  rw [HT.sIx_nat, HT.sIx_nat, sD_len]
  by_cases c : a ≤ ws.length
  · rw [Nat.min_eq_left c, sD_drop, sD_take]
    by_cases c2 : b ≤ ws.length
    · rw [Nat.min_eq_left c2]
    · rw [Nat.min_eq_right (by omega)]
      congr 1
      rw [List.take_of_length_le (by rw [List.length_drop]; omega), List.take_of_length_le (by rw [List.length_drop]; omega)]
  · rw [Nat.min_eq_right (show ws.length ≤ a by omega), sD_drop, sD_take, List.drop_eq_nil_of_le (Nat.le_refl _), List.drop_eq_nil_of_le (show ws.length ≤ a by omega), List.take_nil, List.take_nil]
theorem cut_from {ws : List (List Nat)} {a : Nat} : Dy.cutD (sD ws) (some (a : Int)) none = sD (ws.drop a) := by
  unfold Dy.cutD
  rw [HT.sIx_nat, HT.sIx_none, sD_len]
  by_cases c : a ≤ ws.length
  · rw [Nat.min_eq_left c, sD_drop, sD_take, List.take_of_length_le (by rw [List.length_drop]; omega)]
  · rw [Nat.min_eq_right (by omega), sD_drop, sD_take, List.drop_eq_nil_of_le (by omega), List.drop_eq_nil_of_le (by omega), List.take_nil]
theorem len_ref {h : PH} {n : Nat} {ds : List D} (hn : h.at n = some (.lst ds)) : lenF (.ref n) h = .ok (.int (ds.length : Int)) h := by rw [lenF_refO, hn]; rfl
theorem ixW {h : PH} {n k : Nat} {ws : List (List Nat)} {w : List Nat} (hn : h.at n = some (.lst (sD ws))) (q : ws[k]? = some w) : ixF (.ref n) (.int (k : Int)) h = .ok (.str (SS w)) h := by
  rw [ixF_refO, hn]
  show okO (atI (sD ws) (k : Int)) h = _
  rw [Dy.atI_nat]
  unfold sD
  rw [List.getElem?_map, q]; rfl
/-! ### groups -/
def GI : List (List Nat) → Option (List Int × List (List Nat))
  | [] => none
  | w :: r => match RI 90 w with
    | none => none
    | some m => if m < 0 ∨ (r.length : Int) < m then none else (match numsW (r.take m.toNat) with
      | none => none
      | some ns => some (ns, r.drop m.toNat))
theorem GI_cons {w : List Nat} {r : List (List Nat)} {m : Int} (q : RI 90 w = some m) : GI (w :: r) = if m < 0 ∨ (r.length : Int) < m then none else (match numsW (r.take m.toNat) with
      | none => none
      | some ns => some (ns, r.drop m.toNat)) := by
  show (match RI 90 w with
    | none => none
    | some m => if m < 0 ∨ (r.length : Int) < m then none else (match numsW (r.take m.toNat) with
      | none => none
      | some ns => some (ns, r.drop m.toNat))) = _
  rw [q]
def Wds (ws : List (List Nat)) : Prop := ws.length ≤ 100000 ∧ ∀ w ∈ ws, w.length ≤ 100000
def GC : EM := compXE (srcE (slE (vE 0) (someO (cE (.int 1))) (someO (b2E addF (cE (.int 1)) (vE 1))))) [2] (.one 2) yesT e_group_in_0
def GR : EM := slE (vE 0) (someO (b2E addF (cE (.int 1)) (vE 1))) (noO)
theorem s_group_in_al : s_group_in = seqS (ifS (tbT (b2E eqF (nA (Dy.f1 lenF) (consA (vE 0) (nilA))) (cE (.int 0)))) (seqS (raiseS "TextError") (nextS)) (nextS)) (seqS (asgS (nA (callF 1 f_number_in) (consA (b2E ixF (vE 0) (cE (.int 0))) (nilA))) (.one 1)) (seqS (ifS (orT (tbT (b2E ltF (vE 1) (cE (.int 0)))) (tbT (b2E gtF (vE 1) (b2E subF (nA (Dy.f1 lenF) (consA (vE 0) (nilA))) (cE (.int 1)))))) (seqS (raiseS "TextError") (nextS)) (nextS)) (seqS (retS (nA tupF (consA (nA (Dy.f1 tupleF) (consA (GC) (nilA))) (consA (GR) (nilA))))) (nextS)))) := rfl
def GO (o : Option (List Int × List (List Nat))) (n : Nat) (h : PH) : Prop := match o with
  | some (ns, r) => ∃ X m, Grow h X ∧ X.at m = some (.lst (sD r)) ∧ f_group_in [.ref n] h = .ok (.tup [.tup (ns.map .int), .ref m]) X
  | none => f_group_in [.ref n] h = .exc "TextError" h
theorem group_ap {ws : List (List Nat)} {n : Nat} {h : PH} (hn : h.at n = some (.lst (sD ws))) (W : Wds ws) (hl : h.lim ≤ h.cs.length) : GO (GI ws) n h := by
  obtain ⟨W1, W2⟩ := W
  have le := len_ref hn
  have fe : f_group_in = runF s_group_in 1 3 := rfl
  rw [s_group_in_al] at fe
  cases ws with
  | nil =>
    have le : lenF (.ref n) h = .ok (.int 0) h := le
    show f_group_in [.ref n] h = .exc "TextError" h
    rw [fe]
    simp [le, hl, -lenF_refO]
  | cons w r =>
    rw [sD_len] at le
    have l0 : ¬ (((w :: r).length : Int) = 0) := by simp; omega
    have ix := ixW (k := 0) (w := w) hn rfl
    have ix : ixF (.ref n) (.int 0) h = .ok (.str (SS w)) h := ix
    have nu := num_ap (h := h) (W2 w List.mem_cons_self) hl
    have l1 : ((w :: r).length : Int) - 1 = (r.length : Int) := by simp
    generalize hL : ((w :: r).length : Int) = L at *
    cases q : RI 90 w with
    | none =>
      rw [q] at nu
      rw [show GI (w :: r) = none by simp [GI, q]]
      show f_group_in [.ref n] h = .exc "TextError" h
      rw [fe]
      simp [le, l0, ix, nu, hl, -lenF_refO, -ixF_refO]
    | some m =>
      rw [q] at nu
      have nu : f_number_in [.str (SS w)] h = .ok (.int m) h := nu
      by_cases c : m < 0 ∨ (r.length : Int) < m
      · rw [show GI (w :: r) = none by simp [GI, q, c]]
        show f_group_in [.ref n] h = .exc "TextError" h
        rw [fe]
        have c' : (decide (m < 0) || decide ((r.length : Int) < m)) = true := by simpa using c
        rcases c with c | c
        · simp [le, l0, l1, ix, nu, c, hl, -lenF_refO, -ixF_refO]
        · simp [le, l0, l1, ix, nu, c, hl, -lenF_refO, -ixF_refO]
      · have c1 : ¬ m < 0 := fun z => c (.inl z)
        have c2 : ¬ (r.length : Int) < m := fun z => c (.inr z)
        obtain ⟨k, rfl⟩ := Int.eq_ofNat_of_zero_le (show 0 ≤ m by omega)
        have s1 : slF (.ref n) (some 1) (some (1 + (k : Int))) h = .ok (.ref h.cs.length) (h.push (.lst (sD (r.take k)))) := by
          rw [sl_ref hn]
          have := cut_mid (ws := w :: r) (a := 1) (b := 1 + k)
          rw [show ((1 + k : Nat) : Int) = 1 + (k : Int) by omega, show 1 + k - 1 = k by omega] at this
          exact congrArg (fun z => Res.ok (D.ref h.cs.length) (h.push (.lst z))) this
        have W1' : r.length ≤ 100000 := by rw [List.length_cons] at W1; omega
        have g := nums_x (m := slE (vE 0) (someO (cE (.int 1))) (someO (b2E addF (cE (.int 1)) (vE 1)))) (elt := e_group_in_0) (e := [some (.ref n), some (.int (k : Int)), none]) (i := 2) (h := h) (X := h.push (.lst (sD (r.take k)))) (n := h.cs.length) (ws := r.take k) (by simp [s1]) push_at (push_ok hl) (fun x hx => W2 x (List.mem_cons_of_mem _ (List.mem_of_mem_take hx))) (by rw [List.length_take]; omega) (fun x hx Y => by unfold e_group_in_0; simp)
        have g : GC [some (.ref n), some (.int (k : Int)), none] h = _ := g
        have cc : ¬ (((k : Nat) : Int) < 0 ∨ (r.length : Int) < ((k : Nat) : Int)) := c
        cases q2 : numsW (r.take k) with
        | none =>
          rw [q2] at g
          have g : GC [some (.ref n), some (.int (k : Int)), none] h = .exc "TextError" (h.push (.lst (sD (r.take k)))) := g
          rw [show GI (w :: r) = none by rw [GI_cons q, if_neg cc, Int.toNat_natCast, q2]]
          show f_group_in [.ref n] h = .exc "TextError" h
          rw [fe]
          simp [le, l0, l1, ix, nu, c1, c2, g, hl, push_lim, -lenF_refO, -ixF_refO, -push_ap]
          rw [push_cut (Nat.le_refl _), cut_len]
        | some ns =>
          rw [q2] at g
          have g : GC [some (.ref n), some (.int (k : Int)), none] h = .ok (.ref (h.push (.lst (sD (r.take k)))).cs.length) ((h.push (.lst (sD (r.take k)))).push (.lst (ns.map .int))) := g
          rw [show GI (w :: r) = some (ns, r.drop k) by rw [GI_cons q, if_neg cc, Int.toNat_natCast, q2]]
          have tf : tupleF (.ref (h.push (.lst (sD (r.take k)))).cs.length) ((h.push (.lst (sD (r.take k)))).push (.lst (ns.map .int))) = .ok (.tup (ns.map .int)) ((h.push (.lst (sD (r.take k)))).push (.lst (ns.map .int))) := by rw [tupleF_refO, push_at]; rfl
          have G : Grow h ((h.push (.lst (sD (r.take k)))).push (.lst (ns.map .int))) := (Grow.refl.push _).push _
          have hn2 : ((h.push (.lst (sD (r.take k)))).push (.lst (ns.map .int))).at n = some (.lst (sD (w :: r))) := by rw [G.at_ (at_lt hn)]; exact hn
          generalize hA : h.push (.lst (sD (r.take k))) = A at *
          generalize hB : A.push (.lst (ns.map .int)) = B at *
          have s2 : slF (.ref n) (some (1 + (k : Int))) none B = .ok (.ref B.cs.length) (B.push (.lst (sD (r.drop k)))) := by
            rw [sl_ref hn2]
            have := cut_from (ws := w :: r) (a := 1 + k)
            rw [show ((1 + k : Nat) : Int) = 1 + (k : Int) by omega, show (w :: r).drop (1 + k) = r.drop k by rw [Nat.add_comm]; rfl] at this
            exact congrArg (fun z => Res.ok (D.ref B.cs.length) (B.push (.lst z))) this
          have gr : GR [some (.ref n), some (.int (k : Int)), none] B = .ok (.ref B.cs.length) (B.push (.lst (sD (r.drop k)))) := by
            unfold GR
            simp [s2]
          refine ⟨B.push (.lst (sD (r.drop k))), B.cs.length, G.push _, push_at, ?_⟩
          have lm : (B.push (.lst (sD (r.drop k)))).lim = h.lim := by rw [push_lim]; exact G.lim
          have mi : mrL (ns.map D.int) = 0 := mrL_int
          have kk : (B.push (.lst (sD (r.drop k)))).cut (max h.cs.length (max h.lim (max 0 (max (B.cs.length + 1) 0)))) = B.push (.lst (sD (r.drop k))) := cut_ge (by rw [push_len]; omega)
          rw [fe]
          simp only [runF_ap, List.length_cons, List.length_nil, List.map_cons, List.map_nil, List.cons_append, List.nil_append, List.replicate, Nat.reduceAdd, Nat.reduceSub]
          simp [le, l0, l1, ix, nu, c1, c2, g, tf, gr, lm, -lenF_refO, -ixF_refO, -push_ap, -tupleF_refO]
          exact cut_ge (by rw [push_len]; omega)
end Lk47

set_option exponentiation.threshold 5000
namespace Lk47
open PySem PySem.Spec PyProof.Rows L2 Dy
theorem Grow.fin {h X : PH} (a : Grow h X) (hl : h.lim ≤ h.cs.length) {m : Nat} (q : m ≤ h.cs.length) : X.cut (max h.cs.length m) = h := by rw [Nat.max_eq_left q, Grow.back a]
def D3 (k d : List Nat) (r : List (List Nat)) : Option Ins := if SS k ∈ PW then (match RI 90 d with
  | some x => (match GI r with
    | some (ss, r2) => (match GI r2 with
      | some (fs, []) => some (.doo (SS k) x ss fs)
      | _ => none)
    | none => none)
  | none => none) else none
def DI : List (List Nat) → Option Ins
  | _ :: k :: d :: r => D3 k d r
  | _ => none
def resI (o : Option Ins) (h : PH) : Res D := match o with
  | some i => .ok (iD i) h
  | none => .exc "TextError" h
theorem numsW_len : ∀ {ws : List (List Nat)} {ns : List Int}, numsW ws = some ns → ns.length = ws.length
  | [], ns, q => by cases q; rfl
  | w :: r, ns, q => by
    unfold numsW at q
    split at q
    · split at q
      · cases q; simp [numsW_len (by assumption)]
      · cases q
    · cases q
theorem GI_W {ws : List (List Nat)} {ns : List Int} {r : List (List Nat)} (q : GI ws = some (ns, r)) (W : Wds ws) : Wds r ∧ ns.length ≤ 100000 ∧ r.length + ns.length + 1 = ws.length := by
  cases ws with
  | nil => cases q
  | cons w t =>
    cases q1 : RI 90 w with
    | none => rw [show GI (w :: t) = none by simp [GI, q1]] at q; cases q
    | some m =>
      rw [GI_cons q1] at q
      split at q
      · cases q
      · rename_i c
        split at q
        · cases q
        · rename_i ns' q2
          cases q
          have l := numsW_len q2
          rw [List.length_take] at l
          obtain ⟨W1, W2⟩ := W
          rw [List.length_cons] at W1 ⊢
          exact ⟨⟨by rw [List.length_drop]; omega, fun x hx => W2 x (List.mem_cons_of_mem _ (List.mem_of_mem_drop hx))⟩, by omega, by rw [List.length_drop]; omega⟩
theorem do_ap {ws : List (List Nat)} {n : Nat} {h : PH} (hn : h.at n = some (.lst (sD ws))) (W : Wds ws) (hl : h.lim ≤ h.cs.length) : f_do_in [.ref n] h = resI (DI ws) h := by
  have le := len_ref hn
  rw [sD_len] at le
  have sm3 : ∀ {k : Nat}, k < 3 → (k : Int) < 3 := fun q => by omega
  unfold f_do_in s_do_in
  match ws, hn, W, le with
  | [], hn, W, le => 
    have le : lenF (.ref n) h = .ok (.int 0) h := le
    simp [le, hl, resI, DI, -lenF_refO]
  | [a], hn, W, le =>
    have le : lenF (.ref n) h = .ok (.int 1) h := le
    simp [le, hl, resI, DI, -lenF_refO]
  | [a, b], hn, W, le =>
    have le : lenF (.ref n) h = .ok (.int 2) h := le
    simp [le, hl, resI, DI, -lenF_refO]
  | a :: k :: d :: r, hn, W, le =>
    have l3 : ¬ (((a :: k :: d :: r).length : Int) < 3) := by simp; omega
    generalize hL : ((a :: k :: d :: r).length : Int) = L at *
    obtain ⟨W1, W2⟩ := W
    have i1 := ixW (k := 1) (w := k) hn rfl
    have i2 := ixW (k := 2) (w := d) hn rfl
    have i1 : ixF (.ref n) (.int 1) h = .ok (.str (SS k)) h := i1
    have i2 : ixF (.ref n) (.int 2) h = .ok (.str (SS d)) h := i2
    have ka := kind_ap (k := SS k) (h := h) hl
    have na := num_ap (w := d) (h := h) (W2 d (by simp)) hl
    show _ = resI (D3 k d r) h
    unfold D3
    by_cases c : SS k ∈ PW
    · rw [if_pos c] at ka ⊢
      cases q : RI 90 d with
      | none =>
        rw [q] at na
        simp [le, l3, i1, i2, ka, na, hl, resI, -lenF_refO, -ixF_refO]
      | some x =>
        rw [q] at na
        have na : f_number_in [.str (SS d)] h = .ok (.int x) h := na
        have s1 : slF (.ref n) (some 3) none h = .ok (.ref h.cs.length) (h.push (.lst (sD r))) := by
          rw [sl_ref hn]
          exact congrArg (fun z => Res.ok (D.ref h.cs.length) (h.push (.lst z))) (cut_from (ws := a :: k :: d :: r) (a := 3))
        have Wr : Wds r := ⟨by simp at W1; omega, fun w hw => W2 w (by simp [hw])⟩
        have g1 := group_ap (ws := r) (n := h.cs.length) (h := h.push (.lst (sD r))) push_at Wr (push_ok hl)
        simp only []
        cases q1 : GI r with
        | none =>
          rw [q1] at g1
          have g1 : f_group_in [.ref h.cs.length] (h.push (.lst (sD r))) = .exc "TextError" (h.push (.lst (sD r))) := g1
          simp [le, l3, i1, i2, ka, na, s1, g1, hl, resI, push_lim, -lenF_refO, -ixF_refO, -push_ap]
          rw [push_cut (Nat.le_refl _), cut_len]
        | some p =>
          obtain ⟨ss, r2⟩ := p
          rw [q1] at g1
          obtain ⟨X, m, G1, hm, g1⟩ := g1
          have G1 : Grow h X := Grow.trans (Grow.refl.push _) G1
          obtain ⟨Wr2, ls, _⟩ := GI_W q1 Wr
          have hX : X.lim ≤ X.cs.length := G1.ok hl
          have g2 := group_ap (ws := r2) (n := m) (h := X) hm Wr2 hX
          simp only []
          cases q2 : GI r2 with
          | none =>
            rw [q2] at g2
            have g2 : f_group_in [.ref m] X = .exc "TextError" X := g2
            have k1 := Grow.fin G1 hl (m := X.lim) (by rw [G1.lim]; exact hl)
            simp [le, l3, i1, i2, ka, na, s1, g1, g2, hl, resI, setAll, k1, -lenF_refO, -ixF_refO, -push_ap]
          | some p2 =>
            obtain ⟨fs, r3⟩ := p2
            rw [q2] at g2
            obtain ⟨Y, m2, G2, hm2, g2⟩ := g2
            have G2 : Grow h Y := Grow.trans G1 G2
            have le2 := len_ref hm2
            rw [sD_len] at le2
            have k1 := Grow.fin G2 hl (m := Y.lim) (by rw [G2.lim]; exact hl)
            have mi : mrL (ss.map D.int) = 0 := mrL_int
            have mi2 : mrL (fs.map D.int) = 0 := mrL_int
            cases r3 with
            | nil =>
              have le2 : lenF (.ref m2) Y = .ok (.int 0) Y := le2
              simp [le, l3, i1, i2, ka, na, s1, g1, g2, le2, hl, resI, setAll, k1, iD, -lenF_refO, -ixF_refO, -push_ap]
            | cons w r3 =>
              have l0 : (0 : Int) < (((w :: r3).length : Nat) : Int) := by simp
              generalize (((w :: r3).length : Nat) : Int) = L2 at *
              simp [le, l3, i1, i2, ka, na, s1, g1, g2, le2, l0, hl, resI, setAll, k1, -lenF_refO, -ixF_refO, -push_ap]
    · rw [if_neg c] at ka ⊢
      simp [le, l3, i1, ka, hl, resI, -lenF_refO, -ixF_refO]
end Lk47

set_option exponentiation.threshold 5000
namespace Lk47
open PySem PySem.Spec PyProof.Rows L2 Dy
theorem s_blank : (" " : Str) = SS [32] := by decide +kernel
theorem s_feed : ("\n" : Str) = SS [10] := by decide +kernel
theorem sD_map {ws : List (List Nat)} : (ws.map SS).map D.str = sD ws := by unfold sD; rw [List.map_map]; rfl
theorem split_ap {s : Nat} {x : Str} {a : List Nat} {h : PH} (hx : x = SS [s]) (hs : s < 256) (l : a.length ≤ 100000) : splitF (.str (SS a)) [.str x] h = .ok (.ref h.cs.length) (h.push (.lst (sD (parts s a)))) := by
  subst hx
  show (if ((SS [s]).length == 0) = false ∧ (SS a).length + 2 ≤ 16777216 then newL ((Txt.split (SS a) (SS [s])).map D.str) h else .stuck) = _
  rw [if_pos ⟨by rw [SS_len]; rfl, by rw [SS_len]; omega⟩, parts_is hs, sD_map]
  rfl
theorem tadd_ap {xs ys : List D} {h : PH} (l : xs.length + ys.length ≤ 16777216) : addF (.tup xs) (.tup ys) h = .ok (.tup (xs ++ ys)) h := by
  show (if xs.length + ys.length ≤ 16777216 then _ else _) = _
  rw [if_pos l]
def mkI (z : Str) (ns : List Int) : Option Ins :=
  if z = "set" then (match ns with | [a, n] => some (.set a n) | _ => none)
  else if z = "load" then (match ns with | [a, b, c] => some (.load a b c) | _ => none)
  else if z = "store" then (match ns with | [a, b, c] => some (.store a b c) | _ => none)
  else if z = "mac" then (match ns with | [a, b, c, d, e, f] => some (.mac a b c d e f) | _ => none)
  else if z = "loop" then (match ns with | [a, b, c, d] => some (.loop a b c d) | _ => none)
  else if z = "end" then (match ns with | [] => some .fin | _ => none)
  else if z = "skip" then (match ns with | [a, b] => some (.skip a b) | _ => none)
  else if z = "in" then (match ns with | [a, b, c, d, e, f] => some (.inn a b c d e f) | _ => none)
  else if z = "out" then (match ns with | [a, b, c, d, e, f] => some (.out a b c d e f) | _ => none)
  else if z = "wait" then (match ns with | [a] => some (.wait a) | _ => none)
  else none
def V4 (k : Str) (t : List (List Nat)) : Option Ins := if t.length = 4 ∧ k ∈ PW then (match numsW t with
  | some [d, a, b, c] => some (.vec k d a b c)
  | _ => none) else none
def OP (z : Str) : Option (List Int) → Option Ins
  | some ns => mkI z ns
  | none => none
def II : List (List Nat) → Option Ins
  | [] => none
  | w :: r => if SS w = "do" then DI (w :: r) else if SS w = "vector" then (match r with
    | k :: t => V4 (SS k) t
    | [] => none) else OP (SS w) (numsW r)
def NM : List (Str × Nat) := [("set", 2), ("load", 3), ("store", 3), ("mac", 6), ("loop", 4), ("end", 0), ("skip", 2), ("in", 6), ("out", 6), ("wait", 1)]
theorem mk_ok {z : Str} {L : Nat} (q : (z, L) ∈ NM) (ns : List Int) : (ns.length = L → ∃ i, mkI z ns = some i ∧ iD i = .tup (.str z :: ns.map .int)) ∧ (ns.length ≠ L → mkI z ns = none) := by
  unfold NM at q
  simp only [List.mem_cons, Prod.mk.injEq, List.not_mem_nil, or_false] at q
  have e1 : ∀ {n : Nat}, n = 0 → ∀ {l : List Int}, l.length = n → l = [] := fun z _ h => List.length_eq_zero_iff.mp (z ▸ h)
  rcases q with ⟨rfl, rfl⟩ | ⟨rfl, rfl⟩ | ⟨rfl, rfl⟩ | ⟨rfl, rfl⟩ | ⟨rfl, rfl⟩ | ⟨rfl, rfl⟩ | ⟨rfl, rfl⟩ | ⟨rfl, rfl⟩ | ⟨rfl, rfl⟩ | ⟨rfl, rfl⟩
  all_goals (constructor)
  all_goals (intro l; unfold mkI; simp)
  all_goals first
    | (match ns, l with | [a, b], _ => exact ⟨_, rfl, rfl⟩)
    | (match ns, l with | [a, b, c], _ => exact ⟨_, rfl, rfl⟩)
    | (match ns, l with | [a, b, c, d, e, f], _ => exact ⟨_, rfl, rfl⟩)
    | (match ns, l with | [a, b, c, d], _ => exact ⟨_, rfl, rfl⟩)
    | (match ns, l with | [], _ => exact ⟨_, rfl, rfl⟩)
    | (match ns, l with | [a], _ => exact ⟨_, rfl, rfl⟩)
    | (split <;> first | rfl | (exfalso; simp at l))
def IA : EM := nA (Dy.f1 tupleF) (consA (compXE (srcE (slE (vE 1) (someO (cE (.int 2))) (noO))) [3] (.one 3) yesT e_instruction_in_1) (nilA))
def IB : EM := nA (Dy.f1 tupleF) (consA (compXE (srcE (slE (vE 1) (someO (cE (.int 1))) (noO))) [3] (.one 3) yesT e_instruction_in_0) (nilA))
theorem s_instruction_in_al : s_instruction_in = seqS (asgS (mtE "str" splitF (vE 0) (consA (cE (.str " ")) (nilA))) (.one 1)) (seqS (asgS (b2E ixF (vE 1) (cE (.int 0))) (.one 2)) (seqS (ifS (tbT (b2E (dNotIn "LENGTHS" c_LENGTHS) (vE 2) (cE (.glb "LENGTHS")))) (seqS (raiseS "TextError") (nextS)) (nextS)) (seqS (ifS (tbT (b2E eqF (vE 2) (cE (.str "do")))) (seqS (retS (nA (callF 1 f_do_in) (consA (vE 1) (nilA)))) (nextS)) (nextS)) (seqS (ifS (tbT (b2E neF (nA (Dy.f1 lenF) (consA (vE 1) (nilA))) (b2E (dIx "LENGTHS" c_LENGTHS) (cE (.glb "LENGTHS")) (vE 2)))) (seqS (raiseS "TextError") (nextS)) (nextS)) (seqS (ifS (tbT (b2E eqF (vE 2) (cE (.str "vector")))) (seqS (retS (b2E addF (nA tupF (consA (vE 2) (consA (nA (callF 1 f_kind_in) (consA (b2E ixF (vE 1) (cE (.int 1))) (nilA))) (nilA)))) (IA))) (nextS)) (nextS)) (seqS (retS (b2E addF (nA tupF (consA (vE 2) (nilA))) (IB))) (nextS))))))) := rfl
theorem look_cases (z : Str) : z = "do" ∨ z = "vector" ∨ (∃ L : Nat, (z, L) ∈ NM ∧ List.lookup z c_LENGTHS = some (D.int ((L : Int) + 1)) ∧ z ≠ "do" ∧ z ≠ "vector") ∨ (List.lookup z c_LENGTHS = none ∧ z ≠ "do" ∧ z ≠ "vector" ∧ ∀ ns, mkI z ns = none) := by
  by_cases h1 : z = "do"; · exact .inl h1
  by_cases h2 : z = "vector"; · exact .inr (.inl h2)
  refine .inr (.inr ?_)
  by_cases g1 : z = "set"; · subst g1; exact .inl ⟨2, by simp [NM], by rfl, h1, h2⟩
  by_cases g2 : z = "load"; · subst g2; exact .inl ⟨3, by simp [NM], by rfl, h1, h2⟩
  by_cases g3 : z = "store"; · subst g3; exact .inl ⟨3, by simp [NM], by rfl, h1, h2⟩
  by_cases g4 : z = "mac"; · subst g4; exact .inl ⟨6, by simp [NM], by rfl, h1, h2⟩
  by_cases g5 : z = "loop"; · subst g5; exact .inl ⟨4, by simp [NM], by rfl, h1, h2⟩
  by_cases g6 : z = "end"; · subst g6; exact .inl ⟨0, by simp [NM], by rfl, h1, h2⟩
  by_cases g7 : z = "skip"; · subst g7; exact .inl ⟨2, by simp [NM], by rfl, h1, h2⟩
  by_cases g8 : z = "in"; · subst g8; exact .inl ⟨6, by simp [NM], by rfl, h1, h2⟩
  by_cases g9 : z = "out"; · subst g9; exact .inl ⟨6, by simp [NM], by rfl, h1, h2⟩
  by_cases g10 : z = "wait"; · subst g10; exact .inl ⟨1, by simp [NM], by rfl, h1, h2⟩
  refine .inr ⟨?_, h1, h2, fun ns => by unfold mkI; simp [g1, g2, g3, g4, g5, g6, g7, g8, g9, g10]⟩
  unfold c_LENGTHS
  rw [List.lookup_eq_none_iff]
  intro p hp
  simp only [List.mem_cons, List.not_mem_nil, or_false] at hp
  rcases hp with rfl | rfl | rfl | rfl | rfl | rfl | rfl | rfl | rfl | rfl | rfl | rfl <;> simp [*]
end Lk47

set_option exponentiation.threshold 5000
namespace Lk47
open PySem PySem.Spec PyProof.Rows L2 Dy
theorem parts_len {s : Nat} {a w : List Nat} (h : w ∈ parts s a) : w.length ≤ a.length := by
  have ne : parts s a ≠ [] := spl_ne a []
  have l := J_len (s := s) ne
  rw [parts_J] at l
  have : ∀ (ps : List (List Nat)), w ∈ ps → w.length ≤ (ps.map (·.length)).sum := by
    intro ps
    induction ps with
    | nil => intro h; cases h
    | cons p ps ih =>
      intro h
      simp only [List.map_cons, List.sum_cons]
      rcases List.mem_cons.mp h with rfl | h
      · omega
      · have := ih h; omega
  have := this _ h
  have c : 1 ≤ (parts s a).length := by rw [parts_count]; omega
  omega
theorem parts_cnt {s : Nat} {a : List Nat} : (parts s a).length ≤ a.length + 1 := by
  rw [parts_count]
  have := List.count_le_length (a := s) (l := a)
  omega
theorem tup_c {m : EM} {elt : EM} {e : Dy.Env} {i : Nat} {h X : PH} {n : Nat} {ws : List (List Nat)} (hm : m e h = .ok (.ref n) X) (hn : X.at n = some (.lst (sD ws))) (hl : X.lim ≤ X.cs.length) (lw : ∀ w ∈ ws, w.length ≤ 100000) (l : ws.length ≤ 100000)
    (H : ∀ w ∈ ws, ∀ Y : PH, elt ((e.set i none).set i (some (.str (SS w)))) Y = f_number_in [.str (SS w)] Y) : nA (Dy.f1 tupleF) (consA (compXE (srcE m) [i] (.one i) yesT elt) nilA) e h = match numsW ws with
      | some ns => .ok (.tup (ns.map .int)) (X.push (.lst (ns.map .int)))
      | none => .exc "TextError" X := by
  have g := nums_x (m := m) (elt := elt) (e := e) (i := i) (h := h) hm hn hl lw l H
  cases q : numsW ws with
  | none =>
    rw [q] at g
    have g : compXE (srcE m) [i] (.one i) yesT elt e h = .exc "TextError" X := g
    show (consA (compXE (srcE m) [i] (.one i) yesT elt) nilA e h).bind (Dy.f1 tupleF) = _
    rw [consA_fr, g]; rfl
  | some ns =>
    rw [q] at g
    have g : compXE (srcE m) [i] (.one i) yesT elt e h = .ok (.ref X.cs.length) (X.push (.lst (ns.map .int))) := g
    show (consA (compXE (srcE m) [i] (.one i) yesT elt) nilA e h).bind (Dy.f1 tupleF) = _
    rw [consA_fr, g, c1_ok, nilA_ap, c2_ok, bind_ok]
    show tupleF (.ref X.cs.length) (X.push (.lst (ns.map .int))) = _
    rw [tupleF_refO, push_at]; rfl
theorem ins_ap {a : List Nat} {h : PH} (la : a.length ≤ 50000) (hl : h.lim ≤ h.cs.length) : f_instruction_in [.str (SS a)] h = resI (II (parts 32 a)) h := by
  have sp := split_ap (x := " ") (a := a) (h := h) s_blank (by decide) (by omega)
  have W : Wds (parts 32 a) := ⟨by have := parts_cnt (s := 32) (a := a); omega, fun w hw => by have := parts_len hw; omega⟩
  have ne : parts 32 a ≠ [] := spl_ne a []
  generalize parts 32 a = ws at *
  cases ws with
  | nil => exact absurd rfl ne
  | cons w r =>
    have at1 : (h.push (.lst (sD (w :: r)))).at h.cs.length = some (.lst (sD (w :: r))) := push_at
    have hl1 : (h.push (.lst (sD (w :: r)))).lim ≤ (h.push (.lst (sD (w :: r)))).cs.length := push_ok hl
    have G1 : Grow h (h.push (.lst (sD (w :: r)))) := Grow.refl.push _
    generalize hX : h.push (.lst (sD (w :: r))) = X at *
    have i0 := ixW (k := 0) (w := w) at1 rfl
    have i0 : ixF (.ref h.cs.length) (.int 0) X = .ok (.str (SS w)) X := i0
    have le := len_ref at1
    rw [sD_len] at le
    have kX := Grow.fin G1 hl (m := X.lim) (by rw [G1.lim]; exact hl)
    have fe : f_instruction_in = runF s_instruction_in 1 4 := rfl
    rw [s_instruction_in_al] at fe
    rw [fe]
    have W1 := W.1
    have W2 := W.2
    rw [List.length_cons] at W1
    rcases look_cases (SS w) with c | c | ⟨L, c1, c2, c3, c4⟩ | ⟨c1, c2, c3, c4⟩
    · have ni : (List.lookup ("do" : Str) c_LENGTHS).isSome = true := by rfl
      have d := do_ap at1 W hl1
      rw [show II (w :: r) = DI (w :: r) by simp [II, c]]
      rw [c] at i0
      cases q : DI (w :: r) with
      | none =>
        rw [q] at d
        have d : f_do_in [.ref h.cs.length] X = .exc "TextError" X := d
        simp [sp, i0, ni, d, kX, resI, -ixF_refO, -push_ap]
      | some i =>
        rw [q] at d
        have d : f_do_in [.ref h.cs.length] X = .ok (iD i) X := d
        have mi : (iD i).mr = 0 := by cases i <;> simp [iD]
        simp [sp, i0, ni, d, kX, mi, resI, -ixF_refO, -push_ap]
    · have ni : (List.lookup ("vector" : Str) c_LENGTHS).isSome = true := by rfl
      have li : ∀ h, dIx "LENGTHS" c_LENGTHS (.glb "LENGTHS") (.str "vector") h = .ok (.int 6) h := fun h => dIx_ap (by rfl)
      rw [c] at i0
      have ned : ¬ ("vector" : Str) = "do" := by simp
      by_cases l6 : r.length = 5
      · match r, l6 with
        | k :: t, l6 =>
          have l4 : t.length = 4 := by simpa using l6
          rw [show II (w :: k :: t) = V4 (SS k) t by simp [II, c]]
          have le : lenF (.ref h.cs.length) X = .ok (.int 6) X := by rw [le]; simp; omega
          have i1 := ixW (k := 1) (w := k) at1 rfl
          have i1 : ixF (.ref h.cs.length) (.int 1) X = .ok (.str (SS k)) X := i1
          have ka := kind_ap (k := SS k) (h := X) hl1
          unfold V4
          by_cases ck : SS k ∈ PW
          · rw [if_pos ck] at ka
            rw [if_pos ⟨l4, ck⟩]
            have s1 : slF (.ref h.cs.length) (some 2) none X = .ok (.ref X.cs.length) (X.push (.lst (sD t))) := by
              rw [sl_ref at1]
              exact congrArg (fun z => Res.ok (D.ref X.cs.length) (X.push (.lst z))) (cut_from (ws := w :: k :: t) (a := 2))
            have g : IA [some (.str (SS a)), some (.ref h.cs.length), some (.str "vector"), none] X = _ := tup_c (m := slE (vE 1) (someO (cE (.int 2))) (noO)) (elt := e_instruction_in_1) (e := [some (.str (SS a)), some (.ref h.cs.length), some (.str "vector"), none]) (i := 3) (h := X) (X := X.push (.lst (sD t))) (n := X.cs.length) (ws := t) (by simp [s1]) push_at (push_ok hl1) (fun x hx => W2 x (by simp [hx])) (by omega) (fun x hx Y => by unfold e_instruction_in_1; simp)
            cases q : numsW t with
            | none =>
              rw [q] at g
              have k2 := Grow.fin (G1.push (.lst (sD t))) hl (m := X.lim) (by rw [G1.lim]; exact hl)
              simp [sp, i0, i1, ni, li, ned, le, ka, g, k2, resI, push_lim, -ixF_refO, -push_ap, -lenF_refO]
            | some ns =>
              rw [q] at g
              have ln := numsW_len q
              match ns, ln with
              | [x1, x2, x3, x4], ln =>
                have k2 := Grow.fin ((G1.push (.lst (sD t))).push (.lst ([x1, x2, x3, x4].map D.int))) hl (m := X.lim) (by rw [G1.lim]; exact hl)
                have ta : ∀ Y, addF (.tup [.str "vector", .str (SS k)]) (.tup [.int x1, .int x2, .int x3, .int x4]) Y = .ok (iD (.vec (SS k) x1 x2 x3 x4)) Y := fun Y => tadd_ap (by simp)
                have mi : (iD (.vec (SS k) x1 x2 x3 x4)).mr = 0 := by simp [iD]
                have k2 : ((X.push (.lst (sD t))).push (.lst [.int x1, .int x2, .int x3, .int x4])).cut (max h.cs.length X.lim) = h := k2
                have g : IA [some (.str (SS a)), some (.ref h.cs.length), some (.str "vector"), none] X = .ok (.tup [.int x1, .int x2, .int x3, .int x4]) ((X.push (.lst (sD t))).push (.lst [.int x1, .int x2, .int x3, .int x4])) := g
                simp [sp, i0, i1, ni, li, ned, le, ka, g, k2, ta, mi, resI, push_lim, -ixF_refO, -push_ap, -lenF_refO]
              | [], ln => simp at ln; omega
              | [_], ln => simp at ln; omega
              | [_, _], ln => simp at ln; omega
              | [_, _, _], ln => simp at ln; omega
              | _ :: _ :: _ :: _ :: _ :: _, ln => simp at ln; omega
          · rw [if_neg ck] at ka
            rw [if_neg fun z => ck z.2]
            simp [sp, i0, i1, ni, li, ned, le, ka, kX, resI, -ixF_refO, -push_ap, -lenF_refO]
      · have e : II (w :: r) = none := by
          simp only [II, c, ned, if_false, if_true]
          cases r with
          | nil => rfl
          | cons k t =>
            have : ¬ t.length = 4 := fun z => l6 (by simp [z])
            simp [V4, this]
        rw [e]
        have ll : ¬ (((w :: r).length : Int) = 6) := by simp; omega
        generalize (((w :: r).length : Nat) : Int) = L at *
        simp [sp, i0, ni, li, ned, le, ll, kX, resI, -ixF_refO, -push_ap, -lenF_refO]
    · have ni : (List.lookup (SS w) c_LENGTHS).isSome = true := by rw [c2]; rfl
      have li : ∀ h, dIx "LENGTHS" c_LENGTHS (.glb "LENGTHS") (.str (SS w)) h = .ok (.int ((L : Int) + 1)) h := fun h => dIx_ap c2
      have e : II (w :: r) = OP (SS w) (numsW r) := by simp [II, c3, c4]
      rw [e]
      by_cases lr : r.length = L
      · have le : lenF (.ref h.cs.length) X = .ok (.int ((L : Int) + 1)) X := by rw [le]; simp [lr]
        have s1 : slF (.ref h.cs.length) (some 1) none X = .ok (.ref X.cs.length) (X.push (.lst (sD r))) := by
          rw [sl_ref at1]
          exact congrArg (fun z => Res.ok (D.ref X.cs.length) (X.push (.lst z))) (cut_from (ws := w :: r) (a := 1))
        have g : IB [some (.str (SS a)), some (.ref h.cs.length), some (.str (SS w)), none] X = _ := tup_c (m := slE (vE 1) (someO (cE (.int 1))) (noO)) (elt := e_instruction_in_0) (e := [some (.str (SS a)), some (.ref h.cs.length), some (.str (SS w)), none]) (i := 3) (h := X) (X := X.push (.lst (sD r))) (n := X.cs.length) (ws := r) (by simp [s1]) push_at (push_ok hl1) (fun x hx => W2 x (by simp [hx])) (by omega) (fun x hx Y => by unfold e_instruction_in_0; simp)
        cases q : numsW r with
        | none =>
          rw [q] at g
          have k2 := Grow.fin (G1.push (.lst (sD r))) hl (m := X.lim) (by rw [G1.lim]; exact hl)
          simp [sp, i0, ni, li, c3, c4, le, g, k2, resI, OP, push_lim, -ixF_refO, -push_ap, -lenF_refO]
        | some ns =>
          rw [q] at g
          have ln := numsW_len q
          obtain ⟨i, m1, m2⟩ := (mk_ok c1 ns).1 (by omega)
          have k2 := Grow.fin ((G1.push (.lst (sD r))).push (.lst (ns.map D.int))) hl (m := X.lim) (by rw [G1.lim]; exact hl)
          have ta : ∀ Y, addF (.tup [.str (SS w)]) (.tup (ns.map D.int)) Y = .ok (iD i) Y := fun Y => by rw [tadd_ap (by simp; omega), m2]; rfl
          have mi : (iD i).mr = 0 := by cases i <;> simp [iD]
          rw [show OP (SS w) (some ns) = some i from m1]
          simp [sp, i0, ni, li, c3, c4, le, g, k2, ta, mi, resI, push_lim, -ixF_refO, -push_ap, -lenF_refO]
      · have e2 : OP (SS w) (numsW r) = none := by
          cases q : numsW r with
          | none => rfl
          | some ns => exact (mk_ok c1 ns).2 (by rw [numsW_len q]; exact lr)
        rw [e2]
        have ll : ¬ (((w :: r).length : Int) = (L : Int) + 1) := by simp; omega
        generalize (((w :: r).length : Nat) : Int) = K at *
        simp [sp, i0, ni, li, c3, c4, le, ll, kX, resI, -ixF_refO, -push_ap, -lenF_refO]
    · have e : II (w :: r) = none := by
        simp only [II, c2, c3, if_false]
        cases numsW r with
        | none => rfl
        | some ns => exact c4 ns
      rw [e]
      simp [sp, i0, c1, kX, resI, -ixF_refO, -push_ap]
end Lk47

set_option exponentiation.threshold 5000
namespace Lk47
open PySem PySem.Spec PyProof.Rows L2 Dy
/-! ### lines -/
def seqI : List (List Nat) → Option (List Ins)
  | [] => some []
  | l :: r => match II (parts 32 l) with
    | some i => (match seqI r with
      | some is => some (i :: is)
      | none => none)
    | none => none
theorem seqI_len : ∀ {ls : List (List Nat)} {is : List Ins}, seqI ls = some is → is.length = ls.length
  | [], is, q => by cases q; rfl
  | l :: r, is, q => by
    unfold seqI at q
    split at q
    · split at q
      · cases q; simp [seqI_len (by assumption)]
      · cases q
    · cases q
theorem mrD (i : Ins) : (iD i).mr = 0 := by cases i <;> simp [iD]
theorem ins_c {e0 : Dy.Env} {h : PH} {elt : EM} (hl : h.lim ≤ h.cs.length) : ∀ (ls : List (List Nat)), (∀ w ∈ ls, w.length ≤ 50000) → (∀ w ∈ ls, elt (e0.set 4 (some (.str (SS w)))) h = f_instruction_in [.str (SS w)] h) →
    compV (.one 4) yesT elt e0 (sD ls) h = match seqI ls with
      | some is => .ok (is.map iD) h
      | none => .exc "TextError" h
  | [], _, _ => rfl
  | w :: r, lw, H => by
    have a := H w List.mem_cons_self
    rw [ins_ap (lw w List.mem_cons_self) hl] at a
    have ih := ins_c hl r (fun x hx => lw x (List.mem_cons_of_mem _ hx)) (fun x hx => H x (List.mem_cons_of_mem _ hx))
    show compV (.one 4) yesT elt e0 (D.str (SS w) :: sD r) h = _
    rw [compV_cons, tgt_one, compT_some, yesT_ap, cp1_true, a]
    unfold seqI
    cases q : II (parts 32 w) with
    | none => rfl
    | some i =>
      show ((Res.ok (iD i) h).cp2 _ _ _ _ _ _) = _
      rw [cp2_ok, mrD, cut_ge (by omega), ih]
      cases seqI r <;> rfl
theorem ins_x {m : EM} {elt : EM} {e : Dy.Env} {h X : PH} {n : Nat} {ls : List (List Nat)} (hm : m e h = .ok (.ref n) X) (hn : X.at n = some (.lst (sD ls))) (hl : X.lim ≤ X.cs.length) (lw : ∀ w ∈ ls, w.length ≤ 50000) (l : ls.length ≤ 100000)
    (H : ∀ w ∈ ls, ∀ Y : PH, elt ((e.set 4 none).set 4 (some (.str (SS w)))) Y = f_instruction_in [.str (SS w)] Y) : compXE (srcE m) [4] (.one 4) yesT elt e h = match seqI ls with
      | some is => .ok (.ref X.cs.length) (X.push (.lst (is.map iD)))
      | none => .exc "TextError" X := by
  have src : srcE m e h = .ok (.cell n) X := by
    rw [srcE_ap, hm, bind_ok, srcF_ref, hn]; rfl
  have fu : (Src.cell n).fuel X = (sD ls).length + 1 := by
    show (match X.cs[n]? with | some (.lst ds) => ds.length + 1 | _ => 0) = _
    rw [show X.cs[n]? = some (.lst (sD ls)) from hn]
  have c := ins_c (elt := elt) (e0 := e.set 4 none) (h := X) hl ls lw (fun w hw => H w hw X)
  have cl := compL_cell (t := .one 4) (elt := elt) (e0 := e.set 4 none) hn hl (fun d hd => by
    obtain ⟨w, hw, rfl⟩ := List.mem_map.mp hd
    refine ⟨_, tgt_one, ?_⟩
    rw [H w hw X, ins_ap (lw w hw) hl]
    cases II (parts 32 w) with
    | none => exact .inr ⟨_, rfl⟩
    | some i => exact .inl ⟨_, rfl, mrD i⟩) ((sD ls).length + 1) 0 (by omega) (by omega)
  rw [List.drop_zero, c] at cl
  have ll := sD_len (ws := ls)
  rw [compXE_fr, src]
  show fXA ((Src.cell n).fuel X) [] (compL (.one 4) yesT elt (.cell n) (e.set 4 none) ((Src.cell n).fuel X) 0 X) = _
  rw [fu, cl]
  cases q : seqI ls with
  | none => exact flX_exc (by rw [ll]; omega)
  | some is =>
    have := seqI_len q
    exact flX_ok (by rw [List.length_map]; omega)
/-- the code of a text -/
def RC (a : List Nat) : Option (List Ins) := if (parts 10 a).getLast? = some [] then seqI (parts 10 a).dropLast else none
def RX : EM := compXE (srcE (slE (vE 2) (noO) (someO (u1E negF (cE (.int 1)))))) [4] (.one 4) yesT e_read_code_0
theorem s_read_code_al : s_read_code = seqS (exprS (nA (callF 1 f_check_machine) (consA (vE 0) (nilA)))) (seqS (asgS (mtE "str" splitF (vE 1) (consA (cE (.str "\n")) (nilA))) (.one 2)) (seqS (ifS (tbT (b2E neF (b2E ixF (vE 2) (u1E negF (cE (.int 1)))) (cE (.str "")))) (seqS (raiseS "TextError") (nextS)) (nextS)) (seqS (asgS (nA (Dy.f1 tupleF) (consA (RX) (nilA))) (.one 3)) (seqS (exprS (nA (callF 2 f_check_code) (consA (vE 0) (consA (vE 3) (nilA))))) (seqS (retS (vE 3)) (nextS)))))) := rfl
theorem cut_init {ws : List (List Nat)} : Dy.cutD (sD ws) none (some (-1)) = sD ws.dropLast := by
  unfold Dy.cutD
  rw [HT.sIx_none, List.drop_zero, Nat.sub_zero, List.dropLast_eq_take, ← sD_take]
  congr 1
  show HT.sIx (sD ws).length (sD ws).length (some (-1)) = _
  unfold HT.sIx
  rw [sD_len]
  simp
  omega
theorem ix_last {h : PH} {n : Nat} {ws : List (List Nat)} {w : List Nat} (hn : h.at n = some (.lst (sD (ws ++ [w])))) : ixF (.ref n) (.int (-1)) h = .ok (.str (SS w)) h := by
  rw [ixF_refO, hn]
  show okO (atI (sD (ws ++ [w])) (-1)) h = _
  rw [show sD (ws ++ [w]) = sD ws ++ [.str (SS w)] by unfold sD; simp, atI_last]; rfl
theorem read_ap {a b c d e : Int} {t : List Nat} {h : PH} (g : GM a b c d e) (lt : t.length ≤ 50000) (hl : h.lim ≤ h.cs.length) : (RC t = none → f_read_code [M a b c d e, .str (SS t)] h = .exc "TextError" h) ∧
    (∀ is, RC t = some is → is.length ≤ 3000 → (∀ i ∈ is, Ty i) → (∀ i ∈ is, SB i) → f_read_code [M a b c d e, .str (SS t)] h = match chk a d e is with | some c => .exc c h | none => .ok (cD is) h) := by
  have sp := split_ap (x := "\n") (a := t) (h := h) s_feed (by decide) (by omega)
  have ne : parts 10 t ≠ [] := spl_ne t []
  have lw : ∀ w ∈ parts 10 t, w.length ≤ 50000 := fun w hw => by have := parts_len hw; omega
  have lc : (parts 10 t).length ≤ 50001 := by have := parts_cnt (s := 10) (a := t); omega
  unfold RC
  generalize parts 10 t = ls at *
  obtain ⟨ini, la, rfl⟩ := snoc_of ne
  have cm := check_ap (h := h) g hl
  have fe : f_read_code = runF s_read_code 2 5 := rfl
  rw [s_read_code_al] at fe
  rw [fe]
  have at1 : (h.push (.lst (sD (ini ++ [la])))).at h.cs.length = some (.lst (sD (ini ++ [la]))) := push_at
  have hl1 : (h.push (.lst (sD (ini ++ [la])))).lim ≤ (h.push (.lst (sD (ini ++ [la])))).cs.length := push_ok hl
  have G1 : Grow h (h.push (.lst (sD (ini ++ [la])))) := Grow.refl.push _
  generalize hX : h.push (.lst (sD (ini ++ [la]))) = X at *
  have il := ix_last at1
  have kX := Grow.fin G1 hl (m := X.lim) (by rw [G1.lim]; exact hl)
  rw [List.getLast?_concat, List.dropLast_concat]
  have en : ∀ h, neF (.str (SS la)) (.str "") h = .ok (.bl (!decide (la = []))) h := fun h => by rw [s_empty, neS]
  by_cases cl : la = []
  · subst cl
    rw [if_pos rfl]
    have s1 : slF (.ref h.cs.length) none (some (-1)) X = .ok (.ref X.cs.length) (X.push (.lst (sD ini))) := by
      rw [sl_ref at1]
      exact congrArg (fun z => Res.ok (D.ref X.cs.length) (X.push (.lst z))) (by rw [cut_init, List.dropLast_concat])
    have g2 : RX [some (M a b c d e), some (.str (SS t)), some (.ref h.cs.length), none, none] X = _ := ins_x (m := slE (vE 2) (noO) (someO (u1E negF (cE (.int 1))))) (elt := e_read_code_0) (e := [some (M a b c d e), some (.str (SS t)), some (.ref h.cs.length), none, none]) (h := X) (X := X.push (.lst (sD ini))) (n := X.cs.length) (ls := ini) (by simp [s1]) push_at (push_ok hl1) (fun x hx => lw x (by simp [hx])) (by rw [List.length_append] at lc; simp at lc; omega) (fun x hx Y => by unfold e_read_code_0; simp)
    have en : ∀ h, neF (.str (SS [])) (.str "") h = .ok (.bl false) h := fun h => by rw [en]; rfl
    cases q : seqI ini with
    | none =>
      rw [q] at g2
      refine ⟨fun _ => ?_, fun is z => (by cases z)⟩
      have k2 := Grow.fin (G1.push (.lst (sD ini))) hl (m := X.lim) (by rw [G1.lim]; exact hl)
      simp [cm, sp, il, en, g2, k2, push_lim, -ixF_refO, -push_ap, -neF_str]
    | some is =>
      rw [q] at g2
      refine ⟨fun z => (by cases z), fun is' z l3 ty sb => ?_⟩
      cases z
      have g2 : RX [some (M a b c d e), some (.str (SS t)), some (.ref h.cs.length), none, none] X = .ok (.ref (X.push (.lst (sD ini))).cs.length) ((X.push (.lst (sD ini))).push (.lst (is.map iD))) := g2
      have tf : tupleF (.ref (X.push (.lst (sD ini))).cs.length) ((X.push (.lst (sD ini))).push (.lst (is.map iD))) = .ok (cD is) ((X.push (.lst (sD ini))).push (.lst (is.map iD))) := by rw [tupleF_refO, push_at]; rfl
      have G3 : Grow h ((X.push (.lst (sD ini))).push (.lst (is.map iD))) := (G1.push _).push _
      have cc := cc_ap (h := (X.push (.lst (sD ini))).push (.lst (is.map iD))) g l3 ty sb (G3.ok hl)
      have mi : (cD is).mr = 0 := by unfold cD; rw [mr_tup, mrIs]
      have k2 := Grow.fin G3 hl (m := X.lim) (by rw [G1.lim]; exact hl)
      cases qc : chk a d e is with
      | none =>
        rw [qc] at cc
        simp [cm, sp, il, en, g2, tf, cc, errR, k2, mi, push_lim, -ixF_refO, -push_ap, -neF_str, -tupleF_refO]
      | some c =>
        rw [qc] at cc
        simp [cm, sp, il, en, g2, tf, cc, errR, k2, push_lim, -ixF_refO, -push_ap, -neF_str, -tupleF_refO]
  · rw [if_neg (by simpa using cl)]
    refine ⟨fun _ => ?_, fun is z => (by cases z)⟩
    have en : ∀ h, neF (.str (SS la)) (.str "") h = .ok (.bl true) h := fun h => by rw [en, decide_eq_false cl]; rfl
    simp [cm, sp, il, en, kX, -ixF_refO, -push_ap, -neF_str]
end Lk47

set_option exponentiation.threshold 5000
namespace Lk47
open PySem PySem.Spec PyProof.Rows L2 Dy
/-! ### a list of words that grows -/
def WL (h X : PH) (m : Nat) (acc : List (List Nat)) : Prop := Grow h X ∧ h.cs.length ≤ m ∧ X.at m = some (.lst (sD acc))
theorem mrS {ws : List (List Nat)} : (Cell.lst (sD ws)).mr = 0 := by
  show mrL (sD ws) = 0
  induction ws with
  | nil => rfl
  | cons w r ih => show max 0 (mrL (sD r)) = 0; rw [ih]; rfl
theorem sD_app {a b : List (List Nat)} : sD (a ++ b) = sD a ++ sD b := by unfold sD; rw [List.map_append]
section
variable {h X : PH} {m : Nat} {acc : List (List Nat)}
theorem WL.push (a : WL h X m acc) (c : Cell) : WL h (X.push c) m acc := ⟨a.1.push c, a.2.1, by rw [push_lt (at_lt a.2.2)]; exact a.2.2⟩
theorem WL.put (a : WL h X m acc) (ws : List (List Nat)) : WL h (X.put m (.lst (sD ws))) m ws := by
  obtain ⟨⟨g, rfl⟩, lm, at_⟩ := a
  have lt : m < (h.cs ++ g).length := at_lt at_
  have e : (PH.mk (h.cs ++ g) h.lim).put m (.lst (sD ws)) = ⟨(h.cs ++ g).set m (.lst (sD ws)), h.lim⟩ := by
    unfold PH.put
    rw [if_pos (by rw [mrS]; omega)]
  rw [e]
  refine ⟨⟨g.set (m - h.cs.length) (.lst (sD ws)), by rw [List.set_append_right _ _ lm]⟩, lm, ?_⟩
  show ((h.cs ++ g).set m (.lst (sD ws)))[m]? = _
  rw [List.getElem?_set_self lt]
theorem WL.app (a : WL h X m acc) {w : List Nat} (l : acc.length < 1000000) : ∃ X', appF (.ref m) [.str (SS w)] X = .ok .non X' ∧ WL h X' m (acc ++ [w]) := by
  refine ⟨_, app_ap a.2.2 (by rw [sD_len]; omega), ?_⟩
  have e : sD acc ++ [D.str (SS w)] = sD (acc ++ [w]) := by rw [sD_app]; rfl
  rw [e]
  exact a.put _
theorem WL.gc (a : WL h X m acc) {e : Dy.Env} {l : Nat} (q : h.cs.length ≤ l) (he : e[1]? = some (some (.ref m))) : WL h (X.gc l e) m acc := by
  obtain ⟨⟨g, rfl⟩, lm, at_⟩ := a
  have g1 : m + 1 ≤ mrE e := mrE_ge he
  have k : m + 1 ≤ max l (max h.lim (mrE e)) := by omega
  show WL h (PH.mk ((h.cs ++ g).take (max l (max h.lim (mrE e)))) h.lim) m acc
  generalize max l (max h.lim (mrE e)) = K at *
  refine ⟨⟨g.take (K - h.cs.length), ?_⟩, lm, ?_⟩
  · rw [List.take_append, List.take_of_length_le (by omega)]
  · show ((h.cs ++ g).take K)[m]? = _
    rw [List.getElem?_take_of_lt (by omega)]
    exact at_
theorem WL.add (a : WL h X m acc) {n : Nat} {ws : List (List Nat)} (hn : X.at n = some (.lst (sD ws))) (l : acc.length + ws.length ≤ 1000000) : addF (.ref m) (.ref n) X = .ok (.ref X.cs.length) (X.push (.lst (sD (acc ++ ws)))) ∧ WL h (X.push (.lst (sD (acc ++ ws)))) X.cs.length (acc ++ ws) := by
  refine ⟨?_, a.1.push _, a.1.le, push_at⟩
  rw [ladd_ap a.2.2 hn (by rw [sD_len, sD_len]; omega), sD_app]
end
theorem strsOf_m : ∀ ps : List Str, strsOf (ps.map D.str) = some ps
  | [] => rfl
  | p :: ps => by
    show (match strsOf (ps.map D.str) with | some l => some (p :: l) | none => none) = _
    rw [strsOf_m ps]
theorem join_ap {s : Nat} {x : Str} {ps : List (List Nat)} {h : PH} {n : Nat} (hx : x = SS [s]) (hn : h.at n = some (.lst (sD ps))) (l : (J s ps).length ≤ 1000000) : joinF (.str x) [.ref n] h = .ok (.str (SS (J s ps))) h := by
  subst hx
  unfold joinF
  simp only []
  rw [itemsS_ref, hn]
  show (match strsOf (sD ps) with | some (ys : List Str) => if (ys.map fun x : Str => x.length).sum + ys.length * (SS [s]).length ≤ 16777216 then Res.ok (D.str (Txt.join (SS [s]) ys)) h else .stuck | none => .stuck) = _
  rw [← sD_map, strsOf_m]
  simp only []
  rw [if_pos, SX.join_S]
  rw [SX.lens, List.length_map, SS_len]
  by_cases ne : ps = []
  · subst ne; simp
  · have := J_len (s := s) ne
    simp only [List.length_cons, List.length_nil]
    omega
theorem joinE_ap {ps : List (List Nat)} {h : PH} {n : Nat} (hn : h.at n = some (.lst (sD ps))) (l : ps.flatten.length ≤ 1000000) : joinF (.str "") [.ref n] h = .ok (.str (SS ps.flatten)) h := by
  rw [s_empty]
  unfold joinF
  simp only []
  rw [itemsS_ref, hn]
  show (match strsOf (sD ps) with | some (ys : List Str) => if (ys.map fun x : Str => x.length).sum + ys.length * (SS []).length ≤ 16777216 then Res.ok (D.str (Txt.join (SS []) ys)) h else .stuck | none => .stuck) = _
  rw [← sD_map, strsOf_m]
  simp only []
  have e : TL.joinL [] ps = ps.flatten := by
    have : ∀ ps : List (List Nat), TL.joinL [] ps = ps.flatten := by
      intro ps
      induction ps with
      | nil => rfl
      | cons p r ih =>
        cases r with
        | nil => show p = _; simp
        | cons q r =>
          show p ++ ([] ++ TL.joinL [] (q :: r)) = _
          rw [ih]; rfl
    exact this ps
  rw [if_pos, SX.join_S, e]
  rw [SX.lens, show (SS ([] : List Nat)).length = 0 from rfl, Nat.mul_zero]
  rw [List.length_flatten] at l
  have l2 : (ps.map fun x : List Nat => x.length).sum ≤ 1000000 := l
  omega
/-! ### lines -/
def nB (n : Int) : Prop := n.natAbs.log2 < 1920
theorem str_int {n : Int} {h : PH} (q : nB n) : strF (.int n) h = .ok (.str (SS (numI n))) h := by
  show (if n.natAbs.log2 < 1920 then Res.ok (D.str (toString n)) h else .stuck) = _
  rw [if_pos (show n.natAbs.log2 < 1920 from q)]
  exact congrArg (fun z => Res.ok (D.str z) h) (toString_S n)
theorem str_str {z : Str} {h : PH} : strF (.str z) h = .ok (.str (SS z.cps.toList)) h := by rw [SS_tl]; rfl
/-- the words of a field -/
def fW : D → List (List Nat)
  | .int n => [numI n]
  | .str z => [z.cps.toList]
  | .tup ds => numI ds.length :: ds.map fun d => match d with
    | .int n => numI n
    | _ => []
  | _ => []
def okF : D → Prop
  | .int n => nB n
  | .str _ => True
  | .tup ds => ∃ ns : List Int, ds = ns.map .int ∧ (∀ n ∈ ns, nB n) ∧ ns.length ≤ 100000
  | _ => False
theorem isiT {ds : List D} {h : PH} : isiF (.tup ds) (.ty "tuple") h = .ok (.bl true) h := isi5
theorem isiI {n : Int} {h : PH} : isiF (.int n) (.ty "tuple") h = .ok (.bl false) h := by
  show (if tyAsk.contains "tuple" = true then Res.ok (D.bl (isiB "int" "tuple")) h else .stuck) = _
  rw [if_pos (by decide +kernel), show isiB "int" "tuple" = false by decide +kernel]
theorem isiS {z : Str} {h : PH} : isiF (.str z) (.ty "tuple") h = .ok (.bl false) h := by
  show (if tyAsk.contains "tuple" = true then Res.ok (D.bl (isiB "str" "tuple")) h else .stuck) = _
  rw [if_pos (by decide +kernel), show isiB "str" "tuple" = false by decide +kernel]
def LC : EM := compXE (srcE (vE 2)) [3] (.one 3) yesT e_line_of_1
theorem b_line_of_0_al : b_line_of_0 = seqS (ifS (trT (nA (Dy.f2 isiF) (consA (vE 2) (consA (cE (.ty "tuple")) (nilA))))) (seqS (exprS (mtE "list" appF (vE 1) (consA (nA (Dy.f1 strF) (consA (nA (Dy.f1 lenF) (consA (vE 2) (nilA))) (nilA))) (nilA)))) (seqS (asgS (b2E addF (vE 1) (LC)) (.one 1)) (nextS))) (seqS (exprS (mtE "list" appF (vE 1) (consA (nA (Dy.f1 strF) (consA (vE 2) (nilA))) (nilA)))) (nextS))) (nextS) := rfl
theorem nums_map (ns : List Int) : (ns.map D.int).map (fun d => match d with | .int n => numI n | _ => []) = ns.map numI := by rw [List.map_map]; rfl
theorem strs_cX {elt : EM} {e0 : Dy.Env} {X : PH} (H : ∀ n : Int, nB n → elt (e0.set 3 (some (.int n))) X = .ok (.str (SS (numI n))) X) : ∀ ns : List Int, (∀ n ∈ ns, nB n) → compV (.one 3) yesT elt e0 (ns.map D.int) X = .ok (sD (ns.map numI)) X
  | [], _ => rfl
  | n :: ns, b => by
    have ih := strs_cX H ns (fun m hm => b m (List.mem_cons_of_mem _ hm))
    rw [List.map_cons, compV_cons, tgt_one, compT_some, yesT_ap, cp1_true, H n (b n List.mem_cons_self), cp2_ok, cut_max, ih]; rfl
theorem lc_x {e : Dy.Env} {X : PH} {ns : List Int} (he : e[2]? = some (some (.tup (ns.map .int)))) (l4 : e.length = 4) (b : ∀ n ∈ ns, nB n) (l : ns.length ≤ 100000) : LC e X = .ok (.ref X.cs.length) (X.push (.lst (sD (ns.map numI)))) := by
  have c := strs_cX (elt := e_line_of_1) (e0 := e.set 3 none) (X := X) (fun n q => by
    unfold e_line_of_1
    have g3 : (e.set 3 (some (D.int n)))[3]? = some (some (.int n)) := by rw [List.getElem?_set_self (by rw [l4]; omega)]
    simp [g3, str_int q]) ns b
  have ll : (sD (ns.map numI)).length ≤ 16777216 := by rw [sD_len, List.length_map]; omega
  unfold LC
  simp [he, c, flX_ok ll, -push_ap]
theorem line_step {h X : PH} {m : Nat} {acc : List (List Nat)} {x0 : Option D} {d : D} (a : WL h X m acc) (o : okF d) (l : acc.length + (fW d).length ≤ 100000) : ∃ X' m', b_line_of_0 [x0, some (.ref m), some d, none] X = .nxt [x0, some (.ref m'), some d, none] X' ∧ WL h X' m' (acc ++ fW d) := by
  have il := is_lst a.2.2
  rw [b_line_of_0_al]
  cases d with
  | int n =>
    obtain ⟨X', e1, a1⟩ := a.app (w := numI n) (by omega)
    refine ⟨X', m, ?_, a1⟩
    have s := fun h => str_int (n := n) (h := h) o
    simp [isiI, s, il, e1, -appF_refO]
  | str z =>
    obtain ⟨X', e1, a1⟩ := a.app (w := z.cps.toList) (by omega)
    refine ⟨X', m, ?_, a1⟩
    simp [isiS, str_str, il, e1, -appF_refO]
  | tup ds =>
    obtain ⟨ns, rfl, b, ln⟩ := o
    obtain ⟨X', e1, a1⟩ := a.app (w := numI (ns.length : Int)) (by omega)
    have nb : nB (ns.length : Int) := by
      show (ns.length : Int).natAbs.log2 < 1920
      exact log2_small (show (ns.length : Int).natAbs < 2 ^ 1920 from Nat.lt_of_le_of_lt (show (ns.length : Int).natAbs ≤ 2 ^ 17 by omega) (Nat.pow_lt_pow_right (by decide) (by decide))) (by decide)
    have s := fun h => str_int (n := (ns.length : Int)) (h := h) nb
    have lx := lc_x (e := [x0, some (.ref m), some (.tup (ns.map .int)), none]) (X := X') (ns := ns) rfl rfl b ln
    have fe : fW (.tup (ns.map .int)) = numI (ns.length : Int) :: ns.map numI := by
      show numI ((ns.map D.int).length : Int) :: (ns.map D.int).map _ = _
      rw [nums_map, List.length_map]
    rw [fe] at l ⊢
    obtain ⟨e2, a2⟩ := (a1.push (.lst (sD (ns.map numI)))).add (n := X'.cs.length) (ws := ns.map numI) push_at (by rw [List.length_append]; simp at l ⊢; omega)
    refine ⟨_, _, ?_, by rw [List.append_assoc] at a2; exact a2⟩
    simp [isiT, lenMap, s, il, e1, lx, e2, -appF_refO, -push_ap, -lenF_tup]
  | _ => exact o.elim
theorem line_l {h : PH} {x0 : Option D} {l : Nat} (hl : h.cs.length ≤ l) : ∀ (fs : List D) (acc : List (List Nat)) (X : PH) (m : Nat) (x2 : Option D), (∀ d ∈ fs, okF d) → acc.length + (fs.flatMap fW).length ≤ 100000 → WL h X m acc → ∃ X' m' x2', forV (.one 2) b_line_of_0 l fs [x0, some (.ref m), x2, none] X = .nxt [x0, some (.ref m'), x2', none] X' ∧ WL h X' m' (acc ++ fs.flatMap fW)
  | [], acc, X, m, x2, _, _, a => ⟨X, m, x2, rfl, by simpa using a⟩
  | d :: fs, acc, X, m, x2, o, b, a => by
    rw [List.flatMap_cons, List.length_append] at b
    obtain ⟨X', m', e1, a1⟩ := line_step (x0 := x0) (d := d) a (o d List.mem_cons_self) (by omega)
    obtain ⟨X2, m2, x2', e2, a2⟩ := line_l hl fs (acc ++ fW d) (X'.gc l [x0, some (.ref m'), some d, none]) m' (some d) (fun y hy => o y (List.mem_cons_of_mem _ hy)) (by rw [List.length_append]; omega) (a1.gc hl rfl)
    refine ⟨X2, m2, x2', ?_, by rw [List.flatMap_cons, ← List.append_assoc]; exact a2⟩
    rw [forV_cons, tgt_one, tgtO_some]
    show (b_line_of_0 [x0, some (.ref m), some d, none] X).nextV _ _ _ _ = _
    rw [e1, nextV_nxt]
    exact e2
def itD (i : Ins) : List D := match iD i with
  | .tup ds => ds
  | _ => []
theorem iD_it (i : Ins) : iD i = .tup (itD i) := by cases i <;> rfl
/-- the words of an instruction -/
def wI (i : Ins) : List (List Nat) := (itD i).flatMap fW
def okI (i : Ins) : Prop := (∀ d ∈ itD i, okF d) ∧ (wI i).length ≤ 50000 ∧ (J 32 (wI i)).length ≤ 500000
theorem line_ap {i : Ins} {h : PH} (o : okI i) (hl : h.lim ≤ h.cs.length) : f_line_of [iD i] h = .ok (.str (SS (J 32 (wI i)))) h := by
  have a0 : WL h (h.push (.lst (sD []))) h.cs.length [] := ⟨Grow.refl.push _, Nat.le_refl _, push_at⟩
  obtain ⟨X, m, x2, e1, a1⟩ := line_l (x0 := some (iD i)) (l := (h.push (.lst (sD []))).cs.length) (by rw [push_len]; omega) (itD i) [] _ _ none o.1 (by simpa [wI] using Nat.le_trans o.2.1 (by omega)) a0
  rw [List.nil_append] at a1
  have e1 : forV (.one 2) b_line_of_0 (h.push (.lst [])).cs.length (itD i) [some (iD i), some (.ref h.cs.length), none, none] (h.push (.lst [])) = _ := e1
  have j := join_ap (x := " ") s_blank a1.2.2 (by have := o.2.2; unfold wI at this; omega)
  have k := Grow.fin a1.1 hl (m := X.lim) (by rw [a1.1.lim]; exact hl)
  unfold f_line_of s_line_of
  rw [iD_it i] at e1 ⊢
  simp [e1, j, k, -push_ap]
  rfl
end Lk47

set_option exponentiation.threshold 5000
namespace Lk47
open PySem PySem.Spec PyProof.Rows L2 Dy
def WC : EM := compXE (srcE (vE 2)) [3] (.one 3) yesT e__law_line_1
theorem wc_eq : WC = LC := rfl
theorem b__law_line_0_al : b__law_line_0 = seqS (ifS (trT (nA (Dy.f2 isiF) (consA (vE 2) (consA (cE (.ty "tuple")) (nilA))))) (seqS (asgS (b2E addF (b2E addF (vE 1) (nA lstF (consA (nA (Dy.f1 strF) (consA (nA (Dy.f1 lenF) (consA (vE 2) (nilA))) (nilA))) (nilA)))) (WC)) (.one 1)) (nextS)) (seqS (exprS (mtE "list" appF (vE 1) (consA (nA (Dy.f1 strF) (consA (vE 2) (nilA))) (nilA)))) (nextS))) (nextS) := rfl
theorem lline_step {h X : PH} {m : Nat} {acc : List (List Nat)} {x0 : Option D} {d : D} (a : WL h X m acc) (o : okF d) (l : acc.length + (fW d).length ≤ 100000) : ∃ X' m', b__law_line_0 [x0, some (.ref m), some d, none] X = .nxt [x0, some (.ref m'), some d, none] X' ∧ WL h X' m' (acc ++ fW d) := by
  have il := is_lst a.2.2
  rw [b__law_line_0_al, wc_eq]
  cases d with
  | int n =>
    obtain ⟨X', e1, a1⟩ := a.app (w := numI n) (by omega)
    refine ⟨X', m, ?_, a1⟩
    have s := fun h => str_int (n := n) (h := h) o
    simp [isiI, s, il, e1, -appF_refO]
  | str z =>
    obtain ⟨X', e1, a1⟩ := a.app (w := z.cps.toList) (by omega)
    refine ⟨X', m, ?_, a1⟩
    simp [isiS, str_str, il, e1, -appF_refO]
  | tup ds =>
    obtain ⟨ns, rfl, b, ln⟩ := o
    have nb : nB (ns.length : Int) := by
      show (ns.length : Int).natAbs.log2 < 1920
      exact log2_small (show (ns.length : Int).natAbs < 2 ^ 1920 from Nat.lt_of_le_of_lt (show (ns.length : Int).natAbs ≤ 2 ^ 17 by omega) (Nat.pow_lt_pow_right (by decide) (by decide))) (by decide)
    have s := fun h => str_int (n := (ns.length : Int)) (h := h) nb
    have fe : fW (.tup (ns.map .int)) = numI (ns.length : Int) :: ns.map numI := by
      show numI ((ns.map D.int).length : Int) :: (ns.map D.int).map _ = _
      rw [nums_map, List.length_map]
    rw [fe] at l ⊢
    simp only [List.length_cons, List.length_map] at l
    have p1 := a.push (.lst (sD [numI (ns.length : Int)]))
    obtain ⟨e1, a1⟩ := p1.add (n := X.cs.length) (ws := [numI (ns.length : Int)]) push_at (by simp; omega)
    generalize hY : X.push (.lst (sD [numI (ns.length : Int)])) = Y at *
    have hY : X.push (.lst [.str (SS (numI (ns.length : Int)))]) = Y := hY
    have lx := lc_x (e := [x0, some (.ref m), some (.tup (ns.map .int)), none]) (X := Y.push (.lst (sD (acc ++ [numI (ns.length : Int)])))) (ns := ns) rfl rfl b ln
    obtain ⟨e2, a2⟩ := (a1.push (.lst (sD (ns.map numI)))).add (n := (Y.push (.lst (sD (acc ++ [numI (ns.length : Int)])))).cs.length) (ws := ns.map numI) push_at (by simp; omega)
    refine ⟨_, _, ?_, by rw [List.append_assoc] at a2; exact a2⟩
    simp [isiT, lenMap, s, il, hY, e1, lx, e2, -appF_refO, -push_ap, -lenF_tup]
  | _ => exact o.elim
theorem lline_l {h : PH} {x0 : Option D} {l : Nat} (hl : h.cs.length ≤ l) : ∀ (fs : List D) (acc : List (List Nat)) (X : PH) (m : Nat) (x2 : Option D), (∀ d ∈ fs, okF d) → acc.length + (fs.flatMap fW).length ≤ 100000 → WL h X m acc → ∃ X' m' x2', forV (.one 2) b__law_line_0 l fs [x0, some (.ref m), x2, none] X = .nxt [x0, some (.ref m'), x2', none] X' ∧ WL h X' m' (acc ++ fs.flatMap fW)
  | [], acc, X, m, x2, _, _, a => ⟨X, m, x2, rfl, by simpa using a⟩
  | d :: fs, acc, X, m, x2, o, b, a => by
    rw [List.flatMap_cons, List.length_append] at b
    obtain ⟨X', m', e1, a1⟩ := lline_step (x0 := x0) (d := d) a (o d List.mem_cons_self) (by omega)
    obtain ⟨X2, m2, x2', e2, a2⟩ := lline_l hl fs (acc ++ fW d) (X'.gc l [x0, some (.ref m'), some d, none]) m' (some d) (fun y hy => o y (List.mem_cons_of_mem _ hy)) (by rw [List.length_append]; omega) (a1.gc hl rfl)
    refine ⟨X2, m2, x2', ?_, by rw [List.flatMap_cons, ← List.append_assoc]; exact a2⟩
    rw [forV_cons, tgt_one, tgtO_some]
    show (b__law_line_0 [x0, some (.ref m), some d, none] X).nextV _ _ _ _ = _
    rw [e1, nextV_nxt]
    exact e2
def lnT (i : Ins) : List Nat := J 32 (wI i) ++ [10]
theorem lline_ap {i : Ins} {h : PH} (o : okI i) (hl : h.lim ≤ h.cs.length) : f__law_line [iD i] h = .ok (.str (SS (lnT i))) h := by
  have a0 : WL h (h.push (.lst (sD []))) h.cs.length [] := ⟨Grow.refl.push _, Nat.le_refl _, push_at⟩
  obtain ⟨X, m, x2, e1, a1⟩ := lline_l (x0 := some (iD i)) (l := (h.push (.lst (sD []))).cs.length) (by rw [push_len]; omega) (itD i) [] _ _ none o.1 (by simpa [wI] using Nat.le_trans o.2.1 (by omega)) a0
  rw [List.nil_append] at a1
  have e1 : forV (.one 2) b__law_line_0 (h.push (.lst [])).cs.length (itD i) [some (iD i), some (.ref h.cs.length), none, none] (h.push (.lst [])) = _ := e1
  have j := join_ap (x := " ") s_blank a1.2.2 (by have := o.2.2; unfold wI at this; omega)
  have k := Grow.fin a1.1 hl (m := X.lim) (by rw [a1.1.lim]; exact hl)
  have ad : ∀ Y, addF (.str (SS (J 32 ((itD i).flatMap fW)))) (.str "\n") Y = .ok (.str (SS (lnT i))) Y := fun Y => by
    rw [s_feed, addS (by have := o.2.2; unfold wI at this; simp; omega)]; rfl
  unfold f__law_line s__law_line
  rw [iD_it i] at e1 ⊢
  simp [e1, j, ad, k, -push_ap]
/-- the text of code -/
def due (is : List Ins) : List Nat := (is.map lnT).flatten
def okC (is : List Ins) : Prop := (∀ i ∈ is, okI i) ∧ is.length ≤ 3000 ∧ (due is).length ≤ 1000000
theorem lines_c {elt : EM} {e0 : Dy.Env} {j : Nat} {X : PH} (H : ∀ i : Ins, okI i → elt (e0.set j (some (iD i))) X = .ok (.str (SS (lnT i))) X) : ∀ is : List Ins, (∀ i ∈ is, okI i) → compV (.one j) yesT elt e0 (is.map iD) X = .ok (sD (is.map lnT)) X
  | [], _ => rfl
  | i :: is, b => by
    have ih := lines_c H is (fun m hm => b m (List.mem_cons_of_mem _ hm))
    rw [List.map_cons, compV_cons, tgt_one, compT_some, yesT_ap, cp1_true, H i (b i List.mem_cons_self), cp2_ok, cut_max, ih]; rfl
theorem write_ap {a b c d e : Int} {is : List Ins} {h : PH} (g : GM a b c d e) (o : okC is) (ty : ∀ i ∈ is, Ty i) (sb : ∀ i ∈ is, SB i) (ck : chk a d e is = none) (hl : h.lim ≤ h.cs.length) : f_write_code [M a b c d e, cD is] h = .ok (.str (SS (due is))) h := by
  have cc := cc_ap (h := h) g o.2.1 ty sb hl
  rw [ck] at cc
  have cc : f_check_code [M a b c d e, cD is] h = .ok .non h := cc
  have cv := lines_c (elt := e_write_code_0) (e0 := [some (M a b c d e), some (cD is), none]) (j := 2) (X := h) (fun i oi => by
    have l := line_ap oi hl
    have ad : addF (.str (SS (J 32 (wI i)))) (.str "\n") h = .ok (.str (SS (lnT i))) h := by
      rw [s_feed, addS (by have := oi.2.2; simp; omega)]; rfl
    unfold e_write_code_0
    simp [l, ad]) is o.1
  have ll : (sD (is.map lnT)).length ≤ 16777216 := by rw [sD_len, List.length_map]; have := o.2.1; omega
  have j := joinE_ap (h := h.push (.lst (sD (is.map lnT)))) (n := h.cs.length) push_at o.2.2
  have k := cut1 (h := h) (c := .lst (sD (is.map lnT))) hl
  unfold f_write_code s_write_code
  unfold cD at *
  simp [cc, cv, flX_ok ll, j, k, push_lim, -push_ap]
  rfl
end Lk47

set_option exponentiation.threshold 5000
namespace Lk47
open PySem PySem.Spec PyProof.Rows L2 Dy
/-! ### what is read is what is written -/
theorem ri_back {L : Nat} {w : List Nat} {n : Int} (h : RI L w = some n) : numI n = w := by
  unfold RI at h
  by_cases q : riOk L w
  · rw [if_pos q] at h
    cases h
    obtain ⟨h1, h2, h3, h4⟩ := q
    by_cases c : w.take 1 = [45]
    · obtain ⟨r, rfl⟩ : ∃ r, w = 45 :: r := by
        cases w with
        | nil => simp at c
        | cons x r => exact ⟨r, by simpa using c⟩
      have dg : dig (45 :: r) = r := if_pos c
      rw [dg] at h1 h2 h3 h4
      have wv : wval (45 :: r) = -(valD r : Int) := by unfold wval; rw [if_pos c, dg]
      have l1 : 1 < (45 :: r).length := by cases r with | nil => exact absurd rfl h1 | cons x r => simp
      have nh : r.head? ≠ some 48 := fun z => h4 ⟨z, l1⟩
      have cn : canonW r := ⟨h1, h3, fun z => nh z.1⟩
      have pos : 1 ≤ valD r := by
        cases r with
        | nil => exact absurd rfl h1
        | cons x r =>
          have dx := h3 x List.mem_cons_self
          have : x ≠ 48 := fun z => nh (by rw [z]; rfl)
          have ge := valD_ge (a := r) (c := x)
          have p : 1 ≤ 10 ^ r.length := Nat.pow_le_pow_right (by decide) (Nat.zero_le _)
          exact Nat.le_trans (Nat.le_trans (by omega : 1 ≤ 1 * 1) (Nat.mul_le_mul (by omega : 1 ≤ x - 48) p)) ge
      rw [wv]
      unfold numI
      rw [if_pos (by omega), show (-(valD r : Int)).natAbs = valD r by omega, num_back _ r rfl cn]
    · have dg : dig w = w := if_neg c
      rw [dg] at h1 h2 h3 h4
      have wv : wval w = (valD w : Int) := by unfold wval; rw [if_neg c, dg]
      rw [wv]
      unfold numI
      rw [if_neg (by omega), show ((valD w : Nat) : Int).natAbs = valD w by omega, num_back _ w rfl ⟨h1, h3, h4⟩]
  · rw [if_neg q] at h; cases h
theorem nums_back : ∀ {ws : List (List Nat)} {ns : List Int}, numsW ws = some ns → ws = ns.map numI
  | [], ns, q => by cases q; rfl
  | w :: r, ns, q => by
    unfold numsW at q
    split at q
    · rename_i n q1
      split at q
      · rename_i ns' q2
        cases q
        rw [List.map_cons, ri_back q1, ← nums_back q2]
      · cases q
    · cases q
theorem GI_back {ws : List (List Nat)} {ns : List Int} {r : List (List Nat)} (q : GI ws = some (ns, r)) : ws = (numI (ns.length : Int) :: ns.map numI) ++ r := by
  cases ws with
  | nil => cases q
  | cons w t =>
    cases q1 : RI 90 w with
    | none => rw [show GI (w :: t) = none by simp [GI, q1]] at q; cases q
    | some m =>
      rw [GI_cons q1] at q
      split at q
      · cases q
      · rename_i c
        split at q
        · cases q
        · rename_i ns' q2
          cases q
          have l := numsW_len q2
          rw [List.length_take] at l
          have em : ((ns.length : Nat) : Int) = m := by omega
          rw [em, ri_back q1, ← nums_back q2, List.cons_append, List.take_append_drop]
theorem fW_str {z : Str} : fW (.str z) = [z.cps.toList] := rfl
theorem fW_nums (ns : List Int) : fW (.tup (ns.map .int)) = numI (ns.length : Int) :: ns.map numI := by
  show numI ((ns.map D.int).length : Int) :: (ns.map D.int).map _ = _
  rw [nums_map, List.length_map]
theorem wI_doo {k : Str} {d : Int} {ss fs : List Int} : wI (.doo k d ss fs) = ("do" : Str).cps.toList :: k.cps.toList :: numI d :: ((numI (ss.length : Int) :: ss.map numI) ++ (numI (fs.length : Int) :: fs.map numI)) := by
  show ([D.str "do", .str k, .int d, .tup (ss.map .int), .tup (fs.map .int)] : List D).flatMap fW = _
  simp only [List.flatMap_cons, List.flatMap_nil, fW_nums, List.append_nil]
  rfl
theorem wI_mk {z : Str} {ns : List Int} {i : Ins} (q : iD i = .tup (.str z :: ns.map .int)) : wI i = z.cps.toList :: ns.map numI := by
  have e : itD i = .str z :: ns.map .int := by unfold itD; rw [q]
  unfold wI
  have e2 : ∀ ns : List Int, (ns.map D.int).flatMap fW = ns.map numI := by
    intro ns
    induction ns with
    | nil => rfl
    | cons n ns ih => rw [List.map_cons, List.flatMap_cons, ih]; rfl
  rw [e, List.flatMap_cons, fW_str, e2]; rfl
theorem wI_vec {k : Str} {d a b c : Int} : wI (.vec k d a b c) = ("vector" : Str).cps.toList :: k.cps.toList :: [d, a, b, c].map numI := rfl
theorem SS_w {w : List Nat} {z : Str} (q : SS w = z) : z.cps.toList = w := by rw [← q]
theorem II_do {w : List Nat} {r : List (List Nat)} (c : SS w = "do") : II (w :: r) = DI (w :: r) := by simp [II, c]
theorem II_vec0 {w : List Nat} (c1 : ¬ SS w = "do") (c : SS w = "vector") : II [w] = none := by
  have := c1
  rw [c] at this
  simp [II, c]
theorem II_vec {w k : List Nat} {t : List (List Nat)} (c1 : ¬ SS w = "do") (c : SS w = "vector") : II (w :: k :: t) = V4 (SS k) t := by simp [II, c]
theorem II_op {w : List Nat} {r : List (List Nat)} (c1 : ¬ SS w = "do") (c : ¬ SS w = "vector") : II (w :: r) = OP (SS w) (numsW r) := by simp [II, c1, c]
theorem II_back {ws : List (List Nat)} {i : Ins} (q : II ws = some i) (l : ws.length ≤ 1000000) : ws = wI i ∧ Ty i := by
  cases ws with
  | nil => cases q
  | cons w r =>
    by_cases c : SS w = "do"
    · rw [II_do c] at q
      match r, q, l with
      | [], q, l => cases q
      | [_], q, l => cases q
      | k :: d :: r, q, l =>
        have q : D3 k d r = some i := q
        unfold D3 at q
        split at q
        · rename_i ck
          split at q
          · rename_i x q1
            split at q
            · rename_i ss r2 q2
              split at q
              · rename_i fs q3
                cases q
                have e2 := GI_back q2
                have e3 := GI_back q3
                rw [List.append_nil] at e3
                rw [e3] at e2
                have l1 := congrArg List.length e2
                simp only [List.length_append, List.length_cons, List.length_map] at l1 l
                refine ⟨?_, ck, by omega, by omega⟩
                rw [wI_doo, SS_w c, ri_back q1, ← e2]
              · cases q
            · cases q
          · cases q
        · cases q
    · have c1 := c
      by_cases c : SS w = "vector"
      · match r, q, l with
        | [], q, l => rw [II_vec0 c1 c] at q; cases q
        | k :: t, q, l =>
          rw [II_vec c1 c] at q
          unfold V4 at q
          split at q
          · rename_i cc
            split at q
            · rename_i d a b e q1
              cases q
              refine ⟨?_, cc.2⟩
              rw [wI_vec, nums_back q1, SS_w c]
            · cases q
          · cases q
      · have c2 := c
        rw [II_op c1 c2] at q
        cases q1 : numsW r with
        | none => rw [q1] at q; cases q
        | some ns =>
          rw [q1] at q
          have q : mkI (SS w) ns = some i := q
          rcases look_cases (SS w) with c | c | ⟨L, h1, h2, h3, h4⟩ | ⟨h1, h2, h3, h4⟩
          · exact absurd c c1
          · exact absurd c c2
          · by_cases ln : ns.length = L
            · obtain ⟨i', m1, m2⟩ := (mk_ok h1 ns).1 ln
              rw [m1] at q
              cases q
              refine ⟨by rw [wI_mk m2, nums_back q1], ?_⟩
              cases i with
              | vec => simp [iD] at m2; exact absurd m2.1.symm c2
              | doo => simp [iD] at m2; exact absurd m2.1.symm c1
              | _ => trivial
            · rw [(mk_ok h1 ns).2 ln] at q; cases q
          · rw [h4 ns] at q; cases q
end Lk47

set_option exponentiation.threshold 5000
namespace Lk47
open PySem PySem.Spec PyProof.Rows L2 Dy
theorem ri_nB {w : List Nat} {n : Int} (h : RI 90 w = some n) : nB n := by
  unfold RI at h
  by_cases q : riOk 90 w
  · rw [if_pos q] at h
    cases h
    obtain ⟨h1, h2, h3, h4⟩ := q
    have lt := valD_lt h3
    have p : (10 : Nat) ^ (dig w).length ≤ 10 ^ 90 := Nat.pow_le_pow_right (by decide) h2
    have p2 : (10 : Nat) ^ 90 ≤ 2 ^ 1919 := by decide +kernel
    have na : (wval w).natAbs = valD (dig w) := by unfold wval; split <;> omega
    show (wval w).natAbs.log2 < 1920
    exact log2_small (show (wval w).natAbs < 2 ^ 1920 by rw [na]; exact Nat.lt_of_lt_of_le lt (Nat.le_trans p (Nat.le_trans p2 (Nat.pow_le_pow_right (by decide) (by decide))))) (by decide)
  · rw [if_neg q] at h; cases h
theorem nums_nB : ∀ {ws : List (List Nat)} {ns : List Int}, numsW ws = some ns → ∀ n ∈ ns, nB n
  | [], ns, q => by cases q; intro n hn; cases hn
  | w :: r, ns, q => by
    unfold numsW at q
    split at q
    · rename_i n q1
      split at q
      · rename_i ns' q2
        cases q
        intro m hm
        rcases List.mem_cons.mp hm with e | hm
        · rw [e]; exact ri_nB q1
        · exact nums_nB q2 m hm
      · cases q
    · cases q
theorem GI_nB {ws : List (List Nat)} {ns : List Int} {r : List (List Nat)} (q : GI ws = some (ns, r)) : ∀ n ∈ ns, nB n := by
  cases ws with
  | nil => cases q
  | cons w t =>
    cases q1 : RI 90 w with
    | none => rw [show GI (w :: t) = none by simp [GI, q1]] at q; cases q
    | some m =>
      rw [GI_cons q1] at q
      split at q
      · cases q
      · split at q
        · cases q
        · rename_i ns' q2
          cases q
          exact nums_nB q2
theorem okF_ints {ns : List Int} (b : ∀ n ∈ ns, nB n) : ∀ d ∈ ns.map D.int, okF d := fun d hd => by
  obtain ⟨n, hn, rfl⟩ := List.mem_map.mp hd
  exact b n hn
theorem II_okF {ws : List (List Nat)} {i : Ins} (q : II ws = some i) (l : ws.length ≤ 100000) : ∀ d ∈ itD i, okF d := by
  cases ws with
  | nil => cases q
  | cons w r =>
    by_cases c : SS w = "do"
    · rw [II_do c] at q
      match r, q, l with
      | [], q, l => cases q
      | [_], q, l => cases q
      | k :: d :: r, q, l =>
        have q : D3 k d r = some i := q
        unfold D3 at q
        split at q
        · split at q
          · rename_i x q1
            split at q
            · rename_i ss r2 q2
              split at q
              · rename_i fs q3
                cases q
                have e2 := congrArg List.length (GI_back q2)
                have e3 := congrArg List.length (GI_back q3)
                simp only [List.length_append, List.length_cons, List.length_map, List.length_nil] at e2 e3 l
                intro d hd
                have hd : d ∈ [D.str "do", .str (SS k), .int x, .tup (ss.map .int), .tup (fs.map .int)] := hd
                simp only [List.mem_cons, List.not_mem_nil, or_false] at hd
                rcases hd with rfl | rfl | rfl | rfl | rfl
                · trivial
                · trivial
                · exact ri_nB q1
                · exact ⟨ss, rfl, GI_nB q2, by omega⟩
                · exact ⟨fs, rfl, GI_nB q3, by omega⟩
              · cases q
            · cases q
          · cases q
        · cases q
    · have c1 := c
      by_cases c : SS w = "vector"
      · match r, q, l with
        | [], q, l => rw [II_vec0 c1 c] at q; cases q
        | k :: t, q, l =>
          rw [II_vec c1 c] at q
          unfold V4 at q
          split at q
          · split at q
            · rename_i d a b e q1
              cases q
              have nb := okF_ints (nums_nB q1)
              intro y hy
              have hy : y ∈ D.str "vector" :: .str (SS k) :: [d, a, b, e].map D.int := hy
              rcases List.mem_cons.mp hy with rfl | hy
              · trivial
              · rcases List.mem_cons.mp hy with rfl | hy
                · trivial
                · exact nb y hy
            · cases q
          · cases q
      · have c2 := c
        rw [II_op c1 c2] at q
        cases q1 : numsW r with
        | none => rw [q1] at q; cases q
        | some ns =>
          rw [q1] at q
          have q : mkI (SS w) ns = some i := q
          rcases look_cases (SS w) with c | c | ⟨L, h1, h2, h3, h4⟩ | ⟨h1, h2, h3, h4⟩
          · exact absurd c c1
          · exact absurd c c2
          · by_cases ln : ns.length = L
            · obtain ⟨i', m1, m2⟩ := (mk_ok h1 ns).1 ln
              rw [m1] at q
              cases q
              have e : itD i = .str (SS w) :: ns.map .int := by unfold itD; rw [m2]
              rw [e]
              intro y hy
              rcases List.mem_cons.mp hy with rfl | hy
              · trivial
              · exact okF_ints (nums_nB q1) y hy
            · rw [(mk_ok h1 ns).2 ln] at q; cases q
          · rw [h4 ns] at q; cases q
/-! ### the other way -/
def nS (n : Int) : Prop := (TL.numL n.natAbs).length ≤ 90
theorem numsW_ok : ∀ {ns : List Int}, (∀ n ∈ ns, nS n) → numsW (ns.map numI) = some ns
  | [], _ => rfl
  | n :: ns, b => by
    show (match RI 90 (numI n) with
      | some n => (match numsW (ns.map numI) with
        | some ns => some (n :: ns)
        | none => none)
      | none => none) = _
    rw [ri_numI (b n List.mem_cons_self), numsW_ok fun m hm => b m (List.mem_cons_of_mem _ hm)]
theorem GI_ok {ns : List Int} {r : List (List Nat)} (b : ∀ n ∈ ns, nS n) (l : nS (ns.length : Int)) : GI ((numI (ns.length : Int) :: ns.map numI) ++ r) = some (ns, r) := by
  rw [List.cons_append, GI_cons (ri_numI l), if_neg (by simp; omega), Int.toNat_natCast, List.take_left' (by rw [List.length_map]), numsW_ok b, List.drop_left' (by rw [List.length_map])]
theorem numL_le : ∀ (k n : Nat), n < 10 ^ (k + 1) → (TL.numL n).length ≤ k + 1 := by
  intro k
  induction k with
  | zero =>
    intro n h
    rw [TL.numL_lt (by simpa using h)]
    simp
  | succ k ih =>
    intro n h
    by_cases c : n < 10
    · rw [TL.numL_lt c]; simp
    · rw [TL.numL_step (by omega), List.length_append]
      have := ih (n / 10) (by rw [Nat.pow_succ] at h; omega)
      simp
      omega
theorem nS_of {n : Int} (h : n.natAbs < 10 ^ 20) : nS n := by
  have := numL_le 19 n.natAbs h
  show (TL.numL n.natAbs).length ≤ 90
  omega
/-- all numbers are short -/
def NS : Ins → Prop
  | .set a n => nS a ∧ nS n
  | .load a b c => nS a ∧ nS b ∧ nS c
  | .store a b c => nS a ∧ nS b ∧ nS c
  | .mac a b c d e f => nS a ∧ nS b ∧ nS c ∧ nS d ∧ nS e ∧ nS f
  | .loop a b c d => nS a ∧ nS b ∧ nS c ∧ nS d
  | .fin => True
  | .skip a b => nS a ∧ nS b
  | .inn a b c d e f => nS a ∧ nS b ∧ nS c ∧ nS d ∧ nS e ∧ nS f
  | .out a b c d e f => nS a ∧ nS b ∧ nS c ∧ nS d ∧ nS e ∧ nS f
  | .wait a => nS a
  | .vec _ a b c d => nS a ∧ nS b ∧ nS c ∧ nS d
  | .doo _ d ss fs => nS d ∧ (∀ n ∈ ss, nS n) ∧ (∀ n ∈ fs, nS n) ∧ ss.length ≤ 1000000 ∧ fs.length ≤ 1000000
theorem II_op' {z : Str} {ns : List Int} (c1 : ¬ z = "do") (c2 : ¬ z = "vector") (b : ∀ n ∈ ns, nS n) : II (z.cps.toList :: ns.map numI) = mkI z ns := by
  have e : SS z.cps.toList = z := SS_tl
  rw [II_op (by rw [e]; exact c1) (by rw [e]; exact c2), numsW_ok b, e]; rfl
theorem II_ok {i : Ins} (t : Ty i) (n : NS i) : II (wI i) = some i := by
  cases i with
  | doo k d ss fs =>
    obtain ⟨n1, n2, n3, l1, l2⟩ := n
    obtain ⟨t1, _⟩ := t
    have e : SS ("do" : Str).cps.toList = "do" := SS_tl
    have ls : nS (ss.length : Int) := nS_of (Nat.lt_of_le_of_lt (show (ss.length : Int).natAbs ≤ 1000000 by omega) (by decide))
    have lf : nS (fs.length : Int) := nS_of (Nat.lt_of_le_of_lt (show (fs.length : Int).natAbs ≤ 1000000 by omega) (by decide))
    rw [wI_doo, II_do e]
    show D3 k.cps.toList (numI d) _ = _
    have e2 : SS k.cps.toList = k := SS_tl
    have g2 := GI_ok (r := []) n3 lf
    rw [List.append_nil] at g2
    unfold D3
    rw [e2, if_pos t1, ri_numI n1, GI_ok n2 ls]
    simp only []
    rw [g2]
  | vec k d a b c =>
    obtain ⟨n1, n2, n3, n4⟩ := n
    have e : SS ("vector" : Str).cps.toList = "vector" := SS_tl
    have e2 : SS k.cps.toList = k := SS_tl
    rw [wI_vec, II_vec (by rw [e]; simp) e, e2]
    unfold V4
    rw [if_pos ⟨by simp, t⟩, numsW_ok (by simp; exact ⟨n1, n2, n3, n4⟩)]
  | set a b => rw [wI_mk (z := "set") (ns := [a, b]) rfl, II_op' (by simp) (by simp) (by simp; exact n)]; simp [mkI]
  | load a b c => rw [wI_mk (z := "load") (ns := [a, b, c]) rfl, II_op' (by simp) (by simp) (by simp; exact n)]; simp [mkI]
  | store a b c => rw [wI_mk (z := "store") (ns := [a, b, c]) rfl, II_op' (by simp) (by simp) (by simp; exact n)]; simp [mkI]
  | mac a b c d e f => rw [wI_mk (z := "mac") (ns := [a, b, c, d, e, f]) rfl, II_op' (by simp) (by simp) (by simp; exact n)]; simp [mkI]
  | loop a b c d => rw [wI_mk (z := "loop") (ns := [a, b, c, d]) rfl, II_op' (by simp) (by simp) (by simp; exact n)]; simp [mkI]
  | fin => rw [wI_mk (z := "end") (ns := []) rfl, II_op' (by simp) (by simp) (by simp)]; simp [mkI]
  | skip a b => rw [wI_mk (z := "skip") (ns := [a, b]) rfl, II_op' (by simp) (by simp) (by simp; exact n)]; simp [mkI]
  | inn a b c d e f => rw [wI_mk (z := "in") (ns := [a, b, c, d, e, f]) rfl, II_op' (by simp) (by simp) (by simp; exact n)]; simp [mkI]
  | out a b c d e f => rw [wI_mk (z := "out") (ns := [a, b, c, d, e, f]) rfl, II_op' (by simp) (by simp) (by simp; exact n)]; simp [mkI]
  | wait a => rw [wI_mk (z := "wait") (ns := [a]) rfl, II_op' (by simp) (by simp) (by simp; exact n)]; simp [mkI]
end Lk47

set_option exponentiation.threshold 5000
namespace Lk47
open PySem PySem.Spec PyProof.Rows L2 Dy
theorem J_lines : ∀ ls : List (List Nat), J 10 (ls ++ [[]]) = (ls.map (· ++ [10])).flatten
  | [] => rfl
  | l :: ls => by
    rw [List.cons_append, J_cons (by simp), J_lines ls, List.map_cons, List.flatten_cons]
    simp
def free (w : List Nat) : Prop := 32 ∉ w ∧ 10 ∉ w
theorem numI_free (n : Int) : free (numI n) := by
  have h1 : 32 ∉ TL.numL n.natAbs := TL.numL_free (.inl (by decide))
  have h2 : 10 ∉ TL.numL n.natAbs := TL.numL_free (.inl (by decide))
  unfold free numI
  split
  · exact ⟨by simp [h1], by simp [h2]⟩
  · exact ⟨h1, h2⟩
theorem pw_free {k : Str} (t : k ∈ PW) : free k.cps.toList := by
  refine pw_cases (P := fun k => free k.cps.toList) ?_ ?_ ?_ ?_ ?_ ?_ ?_ ?_ ?_ ?_ ?_ t
  all_goals (unfold free; decide +kernel)
theorem nums_free {ns : List Int} : ∀ w ∈ ns.map numI, free w := fun w hw => by
  obtain ⟨n, _, rfl⟩ := List.mem_map.mp hw
  exact numI_free n
theorem wI_free {i : Ins} (t : Ty i) : ∀ w ∈ wI i, free w := by
  have op : ∀ (z : Str) (ns : List Int), free z.cps.toList → ∀ w ∈ z.cps.toList :: ns.map numI, free w := fun z ns fz w hw => by
    rcases List.mem_cons.mp hw with rfl | hw
    · exact fz
    · exact nums_free w hw
  cases i with
  | doo k d ss fs =>
    rw [wI_doo]
    intro w hw
    rcases List.mem_cons.mp hw with rfl | hw
    · unfold free; decide +kernel
    rcases List.mem_cons.mp hw with rfl | hw
    · exact pw_free t.1
    rcases List.mem_cons.mp hw with rfl | hw
    · exact numI_free _
    rcases List.mem_append.mp hw with hw | hw
    · rcases List.mem_cons.mp hw with rfl | hw
      · exact numI_free _
      · exact nums_free w hw
    · rcases List.mem_cons.mp hw with rfl | hw
      · exact numI_free _
      · exact nums_free w hw
  | vec k d a b c =>
    rw [wI_vec]
    intro w hw
    rcases List.mem_cons.mp hw with rfl | hw
    · unfold free; decide +kernel
    rcases List.mem_cons.mp hw with rfl | hw
    · exact pw_free t
    · exact nums_free w hw
  | set a b => rw [wI_mk (z := "set") (ns := [a, b]) rfl]; exact op _ _ (by unfold free; decide +kernel)
  | load a b c => rw [wI_mk (z := "load") (ns := [a, b, c]) rfl]; exact op _ _ (by unfold free; decide +kernel)
  | store a b c => rw [wI_mk (z := "store") (ns := [a, b, c]) rfl]; exact op _ _ (by unfold free; decide +kernel)
  | mac a b c d e f => rw [wI_mk (z := "mac") (ns := [a, b, c, d, e, f]) rfl]; exact op _ _ (by unfold free; decide +kernel)
  | loop a b c d => rw [wI_mk (z := "loop") (ns := [a, b, c, d]) rfl]; exact op _ _ (by unfold free; decide +kernel)
  | fin => rw [wI_mk (z := "end") (ns := []) rfl]; exact op _ _ (by unfold free; decide +kernel)
  | skip a b => rw [wI_mk (z := "skip") (ns := [a, b]) rfl]; exact op _ _ (by unfold free; decide +kernel)
  | inn a b c d e f => rw [wI_mk (z := "in") (ns := [a, b, c, d, e, f]) rfl]; exact op _ _ (by unfold free; decide +kernel)
  | out a b c d e f => rw [wI_mk (z := "out") (ns := [a, b, c, d, e, f]) rfl]; exact op _ _ (by unfold free; decide +kernel)
  | wait a => rw [wI_mk (z := "wait") (ns := [a]) rfl]; exact op _ _ (by unfold free; decide +kernel)
theorem wI_ne (i : Ins) : wI i ≠ [] := by cases i <;> (intro z; have := congrArg List.length z; simp [wI, itD, iD, fW] at this)
theorem line_parts {i : Ins} (t : Ty i) : parts 32 (J 32 (wI i)) = wI i := J_parts 32 (wI_ne i) fun w hw => (wI_free t w hw).1
theorem J_free {s : Nat} (hs : s ≠ 10) : ∀ ps : List (List Nat), (∀ w ∈ ps, 10 ∉ w) → 10 ∉ J s ps
  | [], _ => by simp [TL.joinL]
  | [p], h => h p (by simp)
  | p :: q :: r, h => by
    rw [J_cons (by simp)]
    intro z
    rcases List.mem_append.mp z with z | z
    · exact h p (by simp) z
    · rcases List.mem_cons.mp z with z | z
      · exact hs z.symm
      · exact J_free hs (q :: r) (fun w hw => h w (List.mem_cons_of_mem _ hw)) z
theorem line_free {i : Ins} (t : Ty i) : 10 ∉ J 32 (wI i) := J_free (by decide) _ fun w hw => (wI_free t w hw).2
theorem due_J (is : List Ins) : due is = J 10 (is.map (fun i => J 32 (wI i)) ++ [[]]) := by
  rw [J_lines, List.map_map]; rfl
theorem due_parts {is : List Ins} (t : ∀ i ∈ is, Ty i) : parts 10 (due is) = is.map (fun i => J 32 (wI i)) ++ [[]] := by
  rw [due_J]
  refine J_parts 10 (by simp) fun p hp => ?_
  rcases List.mem_append.mp hp with hp | hp
  · obtain ⟨i, hi, rfl⟩ := List.mem_map.mp hp
    exact line_free (t i hi)
  · rw [List.mem_singleton.mp hp]; simp
theorem seqI_ok : ∀ {is : List Ins}, (∀ i ∈ is, Ty i ∧ NS i) → seqI (is.map fun i => J 32 (wI i)) = some is
  | [], _ => rfl
  | i :: is, h => by
    have h1 := h i List.mem_cons_self
    show (match II (parts 32 (J 32 (wI i))) with
      | some i => (match seqI (is.map fun i => J 32 (wI i)) with
        | some is => some (i :: is)
        | none => none)
      | none => none) = _
    rw [line_parts h1.1, II_ok h1.1 h1.2, seqI_ok fun j hj => h j (List.mem_cons_of_mem _ hj)]
theorem RC_ok {is : List Ins} (t : ∀ i ∈ is, Ty i ∧ NS i) : RC (due is) = some is := by
  unfold RC
  rw [due_parts fun i hi => (t i hi).1, List.getLast?_concat, if_pos rfl, List.dropLast_concat, seqI_ok t]
theorem seqI_back : ∀ {ls : List (List Nat)} {is : List Ins}, seqI ls = some is → (∀ l ∈ ls, l.length ≤ 49000) → ls = is.map (fun i => J 32 (wI i)) ∧ ∀ i ∈ is, Ty i ∧ okI i
  | [], is, q, _ => by cases q; exact ⟨rfl, fun i hi => by cases hi⟩
  | l :: r, is, q, b => by
    unfold seqI at q
    split at q
    · rename_i i q1
      split at q
      · rename_i is' q2
        cases q
        have lb := b l List.mem_cons_self
        have pc := parts_cnt (s := 32) (a := l)
        obtain ⟨e1, t1⟩ := II_back q1 (by omega)
        have e2 : J 32 (wI i) = l := by rw [← e1, parts_J]
        obtain ⟨e3, t3⟩ := seqI_back q2 fun x hx => b x (List.mem_cons_of_mem _ hx)
        refine ⟨by rw [List.map_cons, e2, ← e3], fun j hj => ?_⟩
        rcases List.mem_cons.mp hj with rfl | hj
        · exact ⟨t1, II_okF q1 (by omega), by rw [← e1]; omega, by rw [e2]; omega⟩
        · exact t3 j hj
      · cases q
    · cases q
theorem RC_back {a : List Nat} {is : List Ins} (q : RC a = some is) (l : a.length ≤ 49000) : due is = a ∧ (∀ i ∈ is, Ty i ∧ okI i) ∧ is.length ≤ a.length := by
  unfold RC at q
  split at q
  · rename_i c
    have lw : ∀ w ∈ (parts 10 a).dropLast, w.length ≤ 49000 := fun w hw => by have := parts_len (List.dropLast_subset _ hw); omega
    obtain ⟨e, t⟩ := seqI_back q lw
    have ne : parts 10 a ≠ [] := spl_ne a []
    obtain ⟨ini, la, e2⟩ := snoc_of ne
    rw [e2, List.getLast?_concat] at c
    have : la = [] := by simpa using c
    subst this
    rw [e2, List.dropLast_concat] at e
    refine ⟨by rw [due_J, ← e, ← e2, parts_J], t, ?_⟩
    have pc := parts_cnt (s := 10) (a := a)
    rw [e2, List.length_append] at pc
    have := congrArg List.length e
    rw [List.length_map] at this
    simp at pc
    omega
  · cases q
end Lk47

set_option exponentiation.threshold 5000
namespace Lk47
open PySem PySem.Spec PyProof.Rows L2 Dy
/-! ### what stands side by side -/
def adj (c d : Nat) : List Nat → Bool
  | x :: y :: r => (decide (x = c) && decide (y = d)) || adj c d (y :: r)
  | _ => false
theorem adj_app {c d : Nat} : ∀ (x y : List Nat), adj c d (x ++ y) = (adj c d x || adj c d y || (decide (x.getLast? = some c) && decide (y.head? = some d)))
  | [], y => by simp [adj]
  | [a], [] => by simp [adj]
  | [a], b :: y => by
    show ((decide (a = c) && decide (b = d)) || adj c d (b :: y)) = _
    simp [adj, Bool.or_comm]
  | a :: b :: x, y => by
    show ((decide (a = c) && decide (b = d)) || adj c d ((b :: x) ++ y)) = ((decide (a = c) && decide (b = d)) || adj c d (b :: x) || adj c d y || _)
    rw [adj_app (b :: x) y]
    simp only [List.getLast?_cons_cons, Bool.or_assoc]
theorem adj_not {c d : Nat} : ∀ {x : List Nat}, c ∉ x → adj c d x = false
  | [], _ => rfl
  | [a], _ => rfl
  | a :: b :: r, h => by
    show ((decide (a = c) && decide (b = d)) || adj c d (b :: r)) = false
    rw [adj_not (x := b :: r) (fun z => h (List.mem_cons_of_mem _ z)), decide_eq_false (show ¬ a = c from fun z => h (by rw [z]; simp))]
    rfl
theorem adj_mid {c d : Nat} : ∀ (p q : List Nat), adj c d (p ++ c :: d :: q) = true := fun p q => by
  rw [adj_app]
  have : adj c d (c :: d :: q) = true := by
    show ((decide (c = c) && decide (d = d)) || adj c d (d :: q)) = true
    simp
  rw [this]; simp
theorem in_two {c d : Nat} {a : List Nat} (h : adj c d a = false) : strIn (SS [c, d]) (SS a) = false := by
  cases q : strIn (SS [c, d]) (SS a) with
  | false => rfl
  | true =>
    obtain ⟨i, h1, h2⟩ := (PySem.StrLaws.found_iff (SS a) (SS [c, d])).mp q
    have e2 : ((a.drop i).take 2 == [c, d]) = true := by
      have := PySem.StrLaws.subAt_eq (SS a) (SS [c, d]) i
      rw [this] at h2
      exact h2
    rw [beq_iff_eq] at e2
    have e3 : a = a.take i ++ c :: d :: (a.drop i).drop 2 := by
      have := List.take_append_drop 2 (a.drop i)
      rw [e2] at this
      calc a = a.take i ++ a.drop i := (List.take_append_drop i a).symm
        _ = _ := by rw [← this]; rfl
    rw [e3, adj_mid] at h
    cases h
theorem numI_ne (n : Int) : numI n ≠ [] := by
  unfold numI
  split
  · simp
  · exact TL.numL_ne _
def solid (w : List Nat) : Prop := w ≠ [] ∧ free w
theorem wI_solid {i : Ins} (t : Ty i) : ∀ w ∈ wI i, solid w := by
  intro w hw
  refine ⟨?_, wI_free t w hw⟩
  have nn : ∀ {ns : List Int}, w ∈ ns.map numI → w ≠ [] := fun hw => by
    obtain ⟨n, _, rfl⟩ := List.mem_map.mp hw
    exact numI_ne n
  have op : ∀ (z : Str) (ns : List Int), z.cps.toList ≠ [] → w ∈ z.cps.toList :: ns.map numI → w ≠ [] := fun z ns fz hw => by
    rcases List.mem_cons.mp hw with rfl | hw
    · exact fz
    · exact nn hw
  have kk : ∀ {k : Str}, k ∈ PW → k.cps.toList ≠ [] := fun t => by
    refine pw_cases (P := fun k => k.cps.toList ≠ []) ?_ ?_ ?_ ?_ ?_ ?_ ?_ ?_ ?_ ?_ ?_ t
    all_goals decide +kernel
  cases i with
  | doo k d ss fs =>
    rw [wI_doo] at hw
    rcases List.mem_cons.mp hw with rfl | hw
    · decide +kernel
    rcases List.mem_cons.mp hw with rfl | hw
    · exact kk t.1
    rcases List.mem_cons.mp hw with rfl | hw
    · exact numI_ne _
    rcases List.mem_append.mp hw with hw | hw
    · rcases List.mem_cons.mp hw with rfl | hw
      · exact numI_ne _
      · exact nn hw
    · rcases List.mem_cons.mp hw with rfl | hw
      · exact numI_ne _
      · exact nn hw
  | vec k d a b c =>
    rw [wI_vec] at hw
    rcases List.mem_cons.mp hw with rfl | hw
    · decide +kernel
    rcases List.mem_cons.mp hw with rfl | hw
    · exact kk t
    · exact nn hw
  | set a b => rw [wI_mk (z := "set") (ns := [a, b]) rfl] at hw; exact op _ _ (by decide +kernel) hw
  | load a b c => rw [wI_mk (z := "load") (ns := [a, b, c]) rfl] at hw; exact op _ _ (by decide +kernel) hw
  | store a b c => rw [wI_mk (z := "store") (ns := [a, b, c]) rfl] at hw; exact op _ _ (by decide +kernel) hw
  | mac a b c d e f => rw [wI_mk (z := "mac") (ns := [a, b, c, d, e, f]) rfl] at hw; exact op _ _ (by decide +kernel) hw
  | loop a b c d => rw [wI_mk (z := "loop") (ns := [a, b, c, d]) rfl] at hw; exact op _ _ (by decide +kernel) hw
  | fin => rw [wI_mk (z := "end") (ns := []) rfl] at hw; exact op _ _ (by decide +kernel) hw
  | skip a b => rw [wI_mk (z := "skip") (ns := [a, b]) rfl] at hw; exact op _ _ (by decide +kernel) hw
  | inn a b c d e f => rw [wI_mk (z := "in") (ns := [a, b, c, d, e, f]) rfl] at hw; exact op _ _ (by decide +kernel) hw
  | out a b c d e f => rw [wI_mk (z := "out") (ns := [a, b, c, d, e, f]) rfl] at hw; exact op _ _ (by decide +kernel) hw
  | wait a => rw [wI_mk (z := "wait") (ns := [a]) rfl] at hw; exact op _ _ (by decide +kernel) hw
/-- a text of words: begins and ends in a word, no blank beside a blank or a feed -/
def Fine (a : List Nat) : Prop := (∃ x, a.head? = some x ∧ x ≠ 32 ∧ x ≠ 10) ∧ (∃ x, a.getLast? = some x ∧ x ≠ 32 ∧ x ≠ 10) ∧ adj 32 32 a = false ∧ adj 32 10 a = false ∧ adj 10 10 a = false
theorem solid_fine {w : List Nat} (s : solid w) : Fine w := by
  obtain ⟨ne, f1, f2⟩ := s
  refine ⟨?_, ?_, adj_not f1, adj_not f1, adj_not f2⟩
  · cases w with
    | nil => exact absurd rfl ne
    | cons x r => exact ⟨x, rfl, fun z => f1 (by simp [z]), fun z => f2 (by simp [z])⟩
  · obtain ⟨r, x, rfl⟩ := snoc_of ne
    exact ⟨x, List.getLast?_concat, fun z => f1 (by simp [z]), fun z => f2 (by simp [z])⟩
theorem J_fine : ∀ {ws : List (List Nat)}, ws ≠ [] → (∀ w ∈ ws, solid w) → Fine (J 32 ws)
  | [], ne, _ => absurd rfl ne
  | [w], _, h => solid_fine (h w (by simp))
  | w :: v :: r, _, h => by
    obtain ⟨⟨x1, a1, a2, a3⟩, ⟨y1, b1, b2, b3⟩, c1, c2, c3⟩ := solid_fine (h w (by simp))
    obtain ⟨⟨x2, d1, d2, d3⟩, ⟨y2, e1, e2, e3⟩, g1, g2, g3⟩ := J_fine (ws := v :: r) (by simp) (fun z hz => h z (List.mem_cons_of_mem _ hz))
    rw [J_cons (by simp)]
    generalize J 32 (v :: r) = t at *
    have nt : t ≠ [] := by intro z; rw [z] at d1; cases d1
    have A : ∀ c d, adj c d (32 :: t) = ((decide (32 = c) && decide (x2 = d)) || adj c d t) := fun c d => by
      cases t with
      | nil => exact absurd rfl nt
      | cons z t =>
        have : z = x2 := by simpa using d1
        subst this; rfl
    have nw : w ≠ [] := by intro z; rw [z] at a1; cases a1
    refine ⟨⟨x1, ?_, a2, a3⟩, ⟨y2, ?_, e2, e3⟩, ?_, ?_, ?_⟩
    · cases w with
      | nil => exact absurd rfl nw
      | cons z w => exact a1
    · rw [List.getLast?_append, List.getLast?_cons]
      rw [e1]; rfl
    · rw [adj_app, A, c1, g1, b1, decide_eq_false d2, decide_eq_false (show ¬ some y1 = some 32 from fun z => b2 (Option.some.inj z))]; rfl
    · rw [adj_app, A, c2, g2, b1, decide_eq_false d3, decide_eq_false (show ¬ some y1 = some 32 from fun z => b2 (Option.some.inj z))]; rfl
    · rw [adj_app, A, c3, g3, b1, decide_eq_false (show ¬ some y1 = some 10 from fun z => b3 (Option.some.inj z))]; rfl
def Ends (a : List Nat) : Prop := (a = [] ∨ (∃ x, a.head? = some x ∧ x ≠ 10) ∧ a.getLast? = some 10) ∧ adj 32 32 a = false ∧ adj 32 10 a = false ∧ adj 10 10 a = false
theorem due_ends : ∀ {is : List Ins}, (∀ i ∈ is, Ty i) → Ends (due is)
  | [], _ => ⟨.inl rfl, rfl, rfl, rfl⟩
  | i :: is, h => by
    obtain ⟨⟨x1, a1, a2, a3⟩, ⟨y1, b1, b2, b3⟩, c1, c2, c3⟩ := J_fine (wI_ne i) (wI_solid (h i List.mem_cons_self))
    obtain ⟨hd, g1, g2, g3⟩ := due_ends fun j hj => h j (List.mem_cons_of_mem _ hj)
    have e : due (i :: is) = (J 32 (wI i) ++ [10]) ++ due is := rfl
    rw [e]
    generalize J 32 (wI i) = w at *
    generalize due is = t at *
    have nw : w ≠ [] := by intro z; rw [z] at a1; cases a1
    have n1 : ¬ some y1 = some 32 := fun z => b2 (Option.some.inj z)
    have n2 : ¬ some y1 = some 10 := fun z => b3 (Option.some.inj z)
    have L : ∀ c d, (c = 32 ∨ c = 10) → adj c d w = false → adj c d (w ++ [10]) = false := fun c d hc q => by
      rw [adj_app, q, b1]
      rcases hc with rfl | rfl
      · rw [decide_eq_false n1]; rfl
      · rw [decide_eq_false n2]; rfl
    have T : ¬ t.head? = some 10 := by
      rcases hd with rfl | ⟨⟨x, h1, h2⟩, _⟩
      · simp
      · rw [h1]; intro z; exact h2 (Option.some.inj z)
    have la : (w ++ [10]).getLast? = some 10 := List.getLast?_concat
    refine ⟨.inr ⟨⟨x1, ?_, a3⟩, ?_⟩, ?_, ?_, ?_⟩
    · cases w with
      | nil => exact absurd rfl nw
      | cons z w => exact a1
    · rw [List.getLast?_append, la]
      rcases hd with rfl | ⟨_, h2⟩
      · rfl
      · rw [h2]; rfl
    · rw [adj_app, L 32 32 (.inl rfl) c1, g1, la]; rfl
    · rw [adj_app, L 32 10 (.inl rfl) c2, g2, la]; rfl
    · rw [adj_app, L 10 10 (.inr rfl) c3, g3, decide_eq_false T, Bool.and_false]; rfl
end Lk47

set_option exponentiation.threshold 5000
namespace Lk47
open PySem PySem.Spec PyProof.Rows L2 Dy
/-! ### what is drawn -/
def GS (a b c d e : Int) : Prop := (32 ≤ a ∧ a ≤ 256) ∧ (4 ≤ b ∧ b ≤ 12) ∧ (16 ≤ c ∧ c ≤ 20) ∧ (1 ≤ d ∧ d ≤ 3) ∧ (1 ≤ e ∧ e ≤ 4)
theorem GS.m {a b c d e : Int} (g : GS a b c d e) : GM a b c d e := by
  obtain ⟨⟨a1, a2⟩, ⟨b1, b2⟩, ⟨c1, c2⟩, ⟨d1, d2⟩, ⟨e1, e2⟩⟩ := g
  exact ⟨⟨a1, a2⟩, ⟨by omega, by omega⟩, ⟨by omega, by omega⟩, ⟨by omega, by omega⟩, ⟨by omega, by omega⟩⟩
theorem machine_ap (q : Dst) (r : List Cell) : ∃ a b c d e q', GS a b c d e ∧ f__law_machine [.ref 1] (dh q r) = .ok (M a b c d e) (dh q' r) := by
  obtain ⟨r0, q0, e0, f0, a0, b0⟩ := draw q 5 (by omega) (by omega)
  obtain ⟨r1, q1, e1, f1, a1, b1⟩ := draw q0 9 (by omega) (by omega)
  obtain ⟨r2, q2, e2, f2, a2, b2⟩ := draw q1 5 (by omega) (by omega)
  obtain ⟨r3, q3, e3, f3, a3, b3⟩ := draw q2 3 (by omega) (by omega)
  obtain ⟨r4, q4, e4, f4, a4, b4⟩ := draw q3 4 (by omega) (by omega)
  obtain ⟨w, hw, w1, w2⟩ : ∃ w : Int, (∀ h, ixF (.tup [.int 32, .int 32, .int 33, .int 64, .int 256]) (.int r0) h = .ok (.int w) h) ∧ 32 ≤ w ∧ w ≤ 256 := by
    rcases (show r0 = 0 ∨ r0 = 1 ∨ r0 = 2 ∨ r0 = 3 ∨ r0 = 4 by omega) with rfl | rfl | rfl | rfl | rfl
    · exact ⟨32, fun h => by simp, by omega, by omega⟩
    · exact ⟨32, fun h => by simp, by omega, by omega⟩
    · exact ⟨33, fun h => by simp, by omega, by omega⟩
    · exact ⟨64, fun h => by simp, by omega, by omega⟩
    · exact ⟨256, fun h => by simp, by omega, by omega⟩
  refine ⟨w, 4 + r1, 16 + r2, 1 + r3, 1 + r4, q4, ⟨⟨w1, w2⟩, ⟨by omega, by omega⟩, ⟨by omega, by omega⟩, ⟨by omega, by omega⟩, ⟨by omega, by omega⟩⟩, ?_⟩
  unfold f__law_machine s__law_machine M
  simp [e0, f0, e1, f1, e2, f2, e3, f3, e4, f4, hw, -ixF_tupO]
theorem signed_ap {q : Dst} {r : List Cell} {m : Int} (m0 : 0 ≤ m) (m1 : m ≤ 1000) : ∃ x q', -m ≤ x ∧ x ≤ m ∧ f__law_signed [.ref 1, .int m] (dh q r) = .ok (.int x) (dh q' r) := by
  obtain ⟨r0, q0, e0, f0, a0, b0⟩ := draw q (2 * m + 1) (by omega) (by omega)
  refine ⟨r0 - m, q0, by omega, by omega, ?_⟩
  have s1 : sm m := sm_lt (by omega) (by omega)
  have s2 : sm 2 := sm_lt (by omega) (by omega)
  have s3 : sm (2 * m + 1) := sm_lt (by omega) (by omega)
  have p : 0 < 2 * m + 1 := by omega
  unfold f__law_signed s__law_signed
  simp [s1, s2, s3, p, e0, f0]
end Lk47

set_option exponentiation.threshold 5000
namespace Lk47
open PySem PySem.Spec PyProof.Rows L2 Dy
def sml (n : Int) : Prop := -100000 < n ∧ n < 100000
def inI : Ins → List Int
  | .set a n => [a, n]
  | .load a b c => [a, b, c]
  | .store a b c => [a, b, c]
  | .mac a b c d e f => [a, b, c, d, e, f]
  | .loop a b c d => [a, b, c, d]
  | .fin => []
  | .skip a b => [a, b]
  | .inn a b c d e f => [a, b, c, d, e, f]
  | .out a b c d e f => [a, b, c, d, e, f]
  | .wait a => [a]
  | .vec _ a b c d => [a, b, c, d]
  | .doo _ d ss fs => d :: (ss ++ fs)
def gd (a d e : Int) (i : Ins) : Prop := Ty i ∧ wf i = true ∧ ir a d e i = true ∧ (∀ n ∈ inI i, sml n) ∧ (inI i).length ≤ 8
theorem fit_sm {w n : Int} (h : 32 ≤ w) (n1 : -1000 ≤ n) (n2 : n ≤ 1000) : fit w n = true := by
  have p : (2 : Int) ^ 31 ≤ 2 ^ (w - 1).toNat := by
    have : (2 : Nat) ^ 31 ≤ 2 ^ (w - 1).toNat := Nat.pow_le_pow_right (by decide) (by omega)
    exact_mod_cast this
  have p2 : (2 : Int) ^ 31 = 2147483648 := by decide
  unfold fit
  rw [decide_eq_true (show -2 ^ (w - 1).toNat ≤ n by omega), decide_eq_true (show n < 2 ^ (w - 1).toNat by omega)]; rfl
theorem inb_t {lo x hi : Int} (h1 : lo ≤ x) (h2 : x ≤ hi) : inb lo x hi = true := by
  unfold inb
  rw [decide_eq_true h1, decide_eq_true h2]; rfl
section
variable {a d e : Int}
theorem gd_set {s n : Int} (ha : 32 ≤ a) (h1 : 0 ≤ s ∧ s ≤ 31) (h2 : -1000 ≤ n ∧ n ≤ 1000) : gd a d e (.set s n) := by
  refine ⟨trivial, rfl, ?_, ?_, by simp [inI]⟩
  · show (inb 0 s 31 && true && (true && fit a n)) = true
    rw [inb_t h1.1 h1.2, fit_sm ha h2.1 h2.2]; rfl
  · intro x hx
    simp only [inI, List.mem_cons, List.not_mem_nil, or_false] at hx
    rcases hx with rfl | rfl <;> exact ⟨by omega, by omega⟩
theorem gd_load {x y z : Int} (h1 : 0 ≤ x ∧ x ≤ 31) (h2 : 0 ≤ y ∧ y ≤ 31) (h3 : 0 ≤ z ∧ z ≤ 1000) : gd a d e (.load x y z) := by
  refine ⟨trivial, rfl, ?_, ?_, by simp [inI]⟩
  · show ((inb 0 x 31 && (inb 0 y 31 && true)) && ((inb (-16384) z 16384 && true) && true)) = true
    rw [inb_t h1.1 h1.2, inb_t h2.1 h2.2, inb_t (by omega) (by omega)]; rfl
  · intro w hx
    simp only [inI, List.mem_cons, List.not_mem_nil, or_false] at hx
    rcases hx with rfl | rfl | rfl <;> exact ⟨by omega, by omega⟩
theorem gd_store {x y z : Int} (h1 : 0 ≤ x ∧ x ≤ 31) (h2 : 0 ≤ y ∧ y ≤ 1000) (h3 : 0 ≤ z ∧ z ≤ 31) : gd a d e (.store x y z) := by
  refine ⟨trivial, rfl, ?_, ?_, by simp [inI]⟩
  · show ((inb 0 x 31 && (inb 0 z 31 && true)) && ((inb (-16384) y 16384 && true) && true)) = true
    rw [inb_t h1.1 h1.2, inb_t h3.1 h3.2, inb_t (by omega) (by omega)]; rfl
  · intro w hx
    simp only [inI, List.mem_cons, List.not_mem_nil, or_false] at hx
    rcases hx with rfl | rfl | rfl <;> exact ⟨by omega, by omega⟩
theorem gd_mac {x y s z t c : Int} (h1 : 0 ≤ x ∧ x ≤ 31) (h2 : 0 ≤ y ∧ y ≤ 31) (h3 : 0 ≤ s ∧ s ≤ 1000) (h4 : 0 ≤ z ∧ z ≤ 31) (h5 : 0 ≤ t ∧ t ≤ 1000) (h6 : 1 ≤ c ∧ c ≤ e) (he : e ≤ 16) : gd a d e (.mac x y s z t c) := by
  refine ⟨trivial, rfl, ?_, ?_, by simp [inI]⟩
  · show ((inb 0 x 31 && (inb 0 y 31 && (inb 0 z 31 && true))) && ((inb (-16384) s 16384 && (inb (-16384) t 16384 && true)) && inb 1 c e)) = true
    rw [inb_t h1.1 h1.2, inb_t h2.1 h2.2, inb_t h4.1 h4.2, inb_t (show (-16384 : Int) ≤ s by omega) (by omega), inb_t (show (-16384 : Int) ≤ t by omega) (by omega), inb_t h6.1 h6.2]; rfl
  · intro w hx
    simp only [inI, List.mem_cons, List.not_mem_nil, or_false] at hx
    rcases hx with rfl | rfl | rfl | rfl | rfl | rfl <;> exact ⟨by omega, by omega⟩
theorem gd_vec {k : Str} {x y z c : Int} (t : k ∈ PW) (ar : args k = 2) (h1 : 0 ≤ x ∧ x ≤ 31) (h2 : 0 ≤ y ∧ y ≤ 31) (h3 : 0 ≤ z ∧ z ≤ 31) (h6 : 1 ≤ c ∧ c ≤ e) (he : e ≤ 16) : gd a d e (.vec k x y z c) := by
  refine ⟨t, decide_eq_true ar, ?_, ?_, by simp [inI]⟩
  · show ((inb 0 x 31 && (inb 0 y 31 && (inb 0 z 31 && true))) && (true && inb 1 c e)) = true
    rw [inb_t h1.1 h1.2, inb_t h2.1 h2.2, inb_t h3.1 h3.2, inb_t h6.1 h6.2]; rfl
  · intro w hx
    simp only [inI, List.mem_cons, List.not_mem_nil, or_false] at hx
    rcases hx with rfl | rfl | rfl | rfl <;> exact ⟨by omega, by omega⟩
theorem gd_wait {q : Int} (h1 : 0 ≤ q ∧ q < d) (hd : d ≤ 4) : gd a d e (.wait q) := by
  refine ⟨trivial, rfl, ?_, ?_, by simp [inI]⟩
  · show (true && (true && (decide (0 ≤ q) && decide (q < d)))) = true
    rw [decide_eq_true h1.1, decide_eq_true h1.2]; rfl
  · intro w hx
    simp only [inI, List.mem_cons, List.not_mem_nil, or_false] at hx
    subst hx; exact ⟨by omega, by omega⟩
theorem gd_in {q x n y m c : Int} (h1 : 0 ≤ q ∧ q < d) (hd : d ≤ 4) (h2 : 0 ≤ x ∧ x ≤ 31) (h3 : 0 ≤ n ∧ n ≤ 1000) (h4 : 0 ≤ y ∧ y ≤ 31) (h5 : 0 ≤ m ∧ m ≤ 1000) (h6 : 1 ≤ c ∧ c ≤ 1000) : gd a d e (.inn q x n y m c) ∧ gd a d e (.out q x n y m c) := by
  have ii : ((inb 0 x 31 && (inb 0 y 31 && true)) && ((inb (-16384) n 16384 && (inb (-16384) m 16384 && true)) && ((decide (0 ≤ q) && decide (q < d)) && inb 1 c 4096))) = true := by
    rw [inb_t h2.1 h2.2, inb_t h4.1 h4.2, inb_t (show (-16384 : Int) ≤ n by omega) (by omega), inb_t (show (-16384 : Int) ≤ m by omega) (by omega), inb_t h6.1 (by omega), decide_eq_true h1.1, decide_eq_true h1.2]; rfl
  have mm : ∀ w ∈ [q, x, n, y, m, c], sml w := by
    intro w hx
    simp only [List.mem_cons, List.not_mem_nil, or_false] at hx
    rcases hx with rfl | rfl | rfl | rfl | rfl | rfl <;> exact ⟨by omega, by omega⟩
  exact ⟨⟨trivial, rfl, ii, mm, by simp [inI]⟩, ⟨trivial, rfl, ii, mm, by simp [inI]⟩⟩
theorem gd_doo {k : Str} {x : Int} {ss fs : List Int} (ha : 32 ≤ a) (t : k ∈ PW) (ls : ss.length = args k) (lf : fs.length = flds k) (h1 : 0 ≤ x ∧ x ≤ 31) (h2 : ∀ s ∈ ss, 0 ≤ s ∧ s ≤ 31) (h3 : ∀ f ∈ fs, -1000 ≤ f ∧ f ≤ 1000) (h4 : fir k fs = true) : gd a d e (.doo k x ss fs) := by
  have a3 : args k ≤ 3 := by unfold args; split <;> (try split) <;> omega
  have f3 : flds k ≤ 2 := by unfold flds; split <;> (try split) <;> omega
  refine ⟨⟨t, by omega, by omega⟩, ?_, ?_, ?_, by simp [inI]; omega⟩
  · show (decide (ss.length = args k) && decide (fs.length = flds k)) = true
    rw [decide_eq_true ls, decide_eq_true lf]; rfl
  · show ((inb 0 x 31 && true) && (true && ((ss.map D.int).all pS && (fir k fs && (if k = "clamp" then (fs.map D.int).all (pF a) else true))))) = true
    have e1 : (ss.map D.int).all pS = true := List.all_eq_true.mpr fun y hy => by
      obtain ⟨s, hs, rfl⟩ := List.mem_map.mp hy
      exact inb_t (h2 s hs).1 (h2 s hs).2
    have e2 : (fs.map D.int).all (pF a) = true := List.all_eq_true.mpr fun y hy => by
      obtain ⟨s, hs, rfl⟩ := List.mem_map.mp hy
      exact fit_sm ha (h3 s hs).1 (h3 s hs).2
    rw [inb_t h1.1 h1.2, e1, e2, h4]
    split <;> rfl
  · intro w hw
    rcases List.mem_cons.mp hw with rfl | hw
    · exact ⟨by omega, by omega⟩
    · rcases List.mem_append.mp hw with hw | hw
      · have := h2 w hw; exact ⟨by omega, by omega⟩
      · have := h3 w hw; exact ⟨by omega, by omega⟩
end
end Lk47

set_option exponentiation.threshold 5000
namespace Lk47
open PySem PySem.Spec PyProof.Rows L2 Dy
theorem info_ap (q : Dst) (r : List Cell) {k : Str} (t : k ∈ PW) : ∃ (fs : List Int) (q' : Dst), f__law_info_of [.ref 1, .str k] (dh q r) = .ok (.tup (fs.map .int)) (dh q' r) ∧ fs.length = flds k ∧ (∀ f ∈ fs, -1000 ≤ f ∧ f ≤ 1000) ∧ fir k fs = true := by
  by_cases c1 : k = "clamp"
  · subst c1
    obtain ⟨x, q0, x1, x2, e0⟩ := signed_ap (q := q) (r := r) (m := 9) (by omega) (by omega)
    obtain ⟨r1, q1, e1, f1, a1, b1⟩ := draw q0 12 (by omega) (by omega)
    refine ⟨[x, x + r1], q1, ?_, by simp [flds], ?_, ?_⟩
    · unfold f__law_info_of s__law_info_of
      simp [e0, e1, f1]
    · intro f hf
      simp only [List.mem_cons, List.not_mem_nil, or_false] at hf
      rcases hf with rfl | rfl <;> exact ⟨by omega, by omega⟩
    · unfold fir WID
      simp
      omega
  · by_cases c2 : k = "shift"
    · subst c2
      obtain ⟨r1, q1, e1, f1, a1, b1⟩ := draw q 3 (by omega) (by omega)
      refine ⟨[1 + r1], q1, ?_, by simp [flds], ?_, ?_⟩
      · unfold f__law_info_of s__law_info_of
        simp [e1, f1]
      · intro f hf
        simp only [List.mem_cons, List.not_mem_nil, or_false] at hf
        subst hf; exact ⟨by omega, by omega⟩
      · unfold fir
        simp
        exact inb_t (by omega) (by omega)
    · refine ⟨[], q, ?_, by simp [flds, c1, c2], fun f hf => (by cases hf), by simp [fir, c1, c2]⟩
      unfold f__law_info_of s__law_info_of
      simp [c1, c2]
theorem draws_ap (m : Int) (m0 : 0 < m) (m1 : m ≤ 1000) {e0 : Dy.Env} {r : List Cell} (h0 : e0[0]? = some (some (.ref 1))) (h1 : e0[1]? = some (some (.int m))) : ∀ (ks : List D) (q : Dst), ∃ (xs : List Int) (q' : Dst), compV (.one 5) yesT e__law_do_0 e0 ks (dh q r) = .ok (xs.map .int) (dh q' r) ∧ xs.length = ks.length ∧ ∀ x ∈ xs, 0 ≤ x ∧ x < m
  | [], q => ⟨[], q, rfl, rfl, fun x hx => by cases hx⟩
  | k :: ks, q => by
    obtain ⟨r1, q1, e1, f1, a1, b1⟩ := draw q m m0 (by omega)
    obtain ⟨xs, q', w1, w2, w3⟩ := draws_ap m m0 m1 h0 h1 ks q1
    refine ⟨r1 :: xs, q', ?_, by simp [w2], ?_⟩
    · have g0 : (e0.set 5 (some k))[0]? = some (some (.ref 1)) := by rw [List.getElem?_set_ne (by omega), h0]
      have g1 : (e0.set 5 (some k))[1]? = some (some (.int m)) := by rw [List.getElem?_set_ne (by omega), h1]
      have sm1 : sm m := sm_lt (by omega) (by omega)
      have el : e__law_do_0 (e0.set 5 (some k)) (dh q r) = .ok (.int r1) (dh q1 r) := by
        unfold e__law_do_0
        simp [g0, g1, m0, sm1, e1, f1]
      rw [compV_cons, tgt_one, compT_some, yesT_ap, cp1_true, el, cp2_ok]
      have : (dh q1 r).cut (max (dh q r).cs.length (max (dh q1 r).lim (D.int r1).mr)) = dh q1 r := cut_ge (by simp)
      rw [this, w1]; rfl
    · intro x hx
      rcases List.mem_cons.mp hx with rfl | hx
      · exact ⟨a1, b1⟩
      · exact w3 x hx
def KD : List Str := ["add", "sub", "mul", "max", "min", "less", "equal", "neg", "clamp", "shift", "where", "add"]
def DS : EM := nA (Dy.f1 tupleF) (consA (compXE (rngE rangeF1 (consA (vE 4) (nilA))) [5] (.one 5) yesT e__law_do_0) (nilA))
theorem s__law_do_al : s__law_do = seqS (asgS (nA tupF (consA (cE (.str "add")) (consA (cE (.str "sub")) (consA (cE (.str "mul")) (consA (cE (.str "max")) (consA (cE (.str "min")) (consA (cE (.str "less")) (consA (cE (.str "equal")) (consA (cE (.str "neg")) (consA (cE (.str "clamp")) (consA (cE (.str "shift")) (consA (cE (.str "where")) (consA (cE (.str "add")) (nilA)))))))))))))) (.one 2)) (seqS (asgS (b2E ixF (vE 2) (nA (callF 2 f__law_take) (consA (vE 0) (consA (cE (.int 12)) (nilA))))) (.one 3)) (seqS (asgS (ifE (tbT (b2E inF (vE 3) (nA tupF (consA (cE (.str "neg")) (consA (cE (.str "clamp")) (consA (cE (.str "shift")) (nilA))))))) (cE (.int 1)) (ifE (tbT (b2E eqF (vE 3) (cE (.str "where")))) (cE (.int 3)) (cE (.int 2)))) (.one 4)) (seqS (retS (nA tupF (consA (cE (.str "do")) (consA (vE 3) (consA (nA (callF 2 f__law_take) (consA (vE 0) (consA (vE 1) (nilA)))) (consA (DS) (consA (nA (callF 2 f__law_info_of) (consA (vE 0) (consA (vE 3) (nilA)))) (nilA)))))))) (nextS)))) := rfl
theorem do_gen {a d e : Int} (ha : 32 ≤ a) (q : Dst) (r : List Cell) : ∃ (i : Ins) (q' : Dst), f__law_do [.ref 1, .int 6] (dh q r) = .ok (iD i) (dh q' r) ∧ gd a d e i ∧ nmI i = "do" := by
  obtain ⟨r0, q0, e0, f0, a0, b0⟩ := draw q 12 (by omega) (by omega)
  obtain ⟨k, hk, kp⟩ : ∃ k : Str, (∀ h, ixF (.tup (KD.map .str)) (.int r0) h = .ok (.str k) h) ∧ k ∈ PW := by
    rcases (show r0 = 0 ∨ r0 = 1 ∨ r0 = 2 ∨ r0 = 3 ∨ r0 = 4 ∨ r0 = 5 ∨ r0 = 6 ∨ r0 = 7 ∨ r0 = 8 ∨ r0 = 9 ∨ r0 = 10 ∨ r0 = 11 by omega) with rfl | rfl | rfl | rfl | rfl | rfl | rfl | rfl | rfl | rfl | rfl | rfl
    · exact ⟨"add", fun h => by kernel_rfl, by simp [PW]⟩
    · exact ⟨"sub", fun h => by kernel_rfl, by simp [PW]⟩
    · exact ⟨"mul", fun h => by kernel_rfl, by simp [PW]⟩
    · exact ⟨"max", fun h => by kernel_rfl, by simp [PW]⟩
    · exact ⟨"min", fun h => by kernel_rfl, by simp [PW]⟩
    · exact ⟨"less", fun h => by kernel_rfl, by simp [PW]⟩
    · exact ⟨"equal", fun h => by kernel_rfl, by simp [PW]⟩
    · exact ⟨"neg", fun h => by kernel_rfl, by simp [PW]⟩
    · exact ⟨"clamp", fun h => by kernel_rfl, by simp [PW]⟩
    · exact ⟨"shift", fun h => by kernel_rfl, by simp [PW]⟩
    · exact ⟨"where", fun h => by kernel_rfl, by simp [PW]⟩
    · exact ⟨"add", fun h => by kernel_rfl, by simp [PW]⟩
  have hk : ∀ h, ixF (.tup [.str "add", .str "sub", .str "mul", .str "max", .str "min", .str "less", .str "equal", .str "neg", .str "clamp", .str "shift", .str "where", .str "add"]) (.int r0) h = .ok (.str k) h := hk
  obtain ⟨r1, q1, e1, f1, a1, b1⟩ := draw q0 6 (by omega) (by omega)
  have many : ∀ (e9 : Dy.Env) (h : PH), e9[3]? = some (some (.str k)) → ifE (tbT (b2E inF (vE 3) (nA tupF (consA (cE (.str "neg")) (consA (cE (.str "clamp")) (consA (cE (.str "shift")) (nilA))))))) (cE (.int 1)) (ifE (tbT (b2E eqF (vE 3) (cE (.str "where")))) (cE (.int 3)) (cE (.int 2))) e9 h = .ok (.int (args k : Int)) h := fun e9 h g => by
    have ii : ∀ h, inF (.str k) (.tup [.str "neg", .str "clamp", .str "shift"]) h = .ok (.bl (decide (k = "neg" ∨ k = "clamp" ∨ k = "shift"))) h := fun h => by
      refine pw_cases (P := fun k => inF (.str k) (.tup [.str "neg", .str "clamp", .str "shift"]) h = .ok (.bl (decide (k = "neg" ∨ k = "clamp" ∨ k = "shift"))) h) ?_ ?_ ?_ ?_ ?_ ?_ ?_ ?_ ?_ ?_ ?_ kp
      all_goals (simp; kernel_rfl)
    by_cases c1 : k = "neg" ∨ k = "clamp" ∨ k = "shift"
    · simp [g, ii, c1, args]
    · by_cases c2 : k = "where"
      · subst c2
        have i2 : ∀ h, inF (.str "where") (.tup [.str "neg", .str "clamp", .str "shift"]) h = .ok (.bl false) h := fun h => by kernel_rfl
        simp [g, i2, args]
      · simp [g, ii, c1, c2, args]
  have a3 : args k ≤ 3 := by unfold args; split <;> (try split) <;> omega
  obtain ⟨xs, q2, w1, w2, w3⟩ := draws_ap 6 (by omega) (by omega) (r := r) (e0 := [some (.ref 1), some (.int 6), some (.tup (KD.map .str)), some (.str k), some (.int (args k : Int)), none]) rfl rfl (rangeD 0 1 (args k)) q1
  have rg : ∀ h, rangeF1 [.int (args k : Int)] h = .ok (.vals (rangeD 0 1 (args k))) h := fun h => by rw [range1 (in62_lit (by omega) (by omega)), Int.toNat_natCast]
  have rl : (rangeD 0 1 (args k)).length = args k := by unfold rangeD; simp
  have ds : DS [some (.ref 1), some (.int 6), some (.tup (KD.map .str)), some (.str k), some (.int (args k : Int)), none] (dh q1 r) = .ok (.tup (xs.map .int)) (dh q2 (r ++ [.lst (xs.map .int)])) := by
    have fl : ∀ N, (Res.ok (xs.map D.int) (dh q2 r)).flX N = .ok (.ref (r.length + 2)) (dh q2 (r ++ [.lst (xs.map .int)])) := fun N => flX_ok (by rw [List.length_map, w2, rl]; omega)
    have tf : tupleF (.ref (r.length + 2)) (dh q2 (r ++ [.lst (xs.map .int)])) = .ok (.tup (xs.map .int)) (dh q2 (r ++ [.lst (xs.map .int)])) := by
      rw [tupleF_refO, dh_cs]; simp
    unfold DS
    simp [rg, w1, fl, tf, -range1, -tupleF_refO]
  obtain ⟨fs, q3, i1, i2, i3, i4⟩ := info_ap q2 (r ++ [.lst (xs.map .int)]) kp
  refine ⟨.doo k r1 xs fs, q3, ?_, gd_doo ha kp (by rw [w2, rl]) i2 ⟨a1, by omega⟩ (fun s hs => ⟨(w3 s hs).1, by have := (w3 s hs).2; omega⟩) i3 i4, rfl⟩
  unfold f__law_do
  rw [s__law_do_al]
  have ds : DS [some (.ref 1), some (.int 6), some (.tup [.str "add", .str "sub", .str "mul", .str "max", .str "min", .str "less", .str "equal", .str "neg", .str "clamp", .str "shift", .str "where", .str "add"]), some (.str k), some (.int (args k : Int)), none] (dh q1 r) = .ok (.tup (xs.map .int)) (dh q2 (r ++ [.lst (xs.map .int)])) := ds
  have mk := fun h => many [some (.ref 1), some (.int 6), some (.tup [.str "add", .str "sub", .str "mul", .str "max", .str "min", .str "less", .str "equal", .str "neg", .str "clamp", .str "shift", .str "where", .str "add"]), some (.str k), none, none] h rfl
  generalize hMK : (ifE (tbT (b2E inF (vE 3) (nA tupF (consA (cE (.str "neg")) (consA (cE (.str "clamp")) (consA (cE (.str "shift")) (nilA))))))) (cE (.int 1)) (ifE (tbT (b2E eqF (vE 3) (cE (.str "where")))) (cE (.int 3)) (cE (.int 2)))) = MK at *
  have ct : (dh q3 (r ++ [.lst (xs.map .int)])).cut (r.length + 2) = dh q3 r := by rw [dh_cut]; simp
  have mi := mrD (.doo k r1 xs fs)
  simp only [iD] at mi ⊢
  simp [e0, f0, hk, e1, f1, mk, ds, i1, ct, -ixF_tupO]
theorem transfer_gen {a b c d e : Int} (g : GS a b c d e) (q : Dst) (r : List Cell) : ∃ (i : Ins) (q' : Dst), f__law_transfer [.ref 1, M a b c d e] (dh q r) = .ok (iD i) (dh q' r) ∧ gd a d e i ∧ (nmI i = "in" ∨ nmI i = "out") := by
  obtain ⟨⟨g1, g2⟩, ⟨g3, g4⟩, ⟨g5, g6⟩, ⟨g7, g8⟩, ⟨g9, g10⟩⟩ := g
  obtain ⟨r0, q0, e0, f0, a0, b0⟩ := draw q 3 (by omega) (by omega)
  obtain ⟨mx, hmx⟩ : ∃ mx : Int, (if b - (1 + r0) + 1 > 1 then b - (1 + r0) + 1 else 1) = mx := ⟨_, rfl⟩
  have mx1 : 1 ≤ mx ∧ mx ≤ 100 := by rw [← hmx]; split <;> omega
  obtain ⟨r1, q1, e1, f1, a1, b1⟩ := draw q0 mx (by omega) (by omega)
  obtain ⟨r2, q2, e2, f2, a2, b2⟩ := draw q1 (c - (1 + r0) + 1) (by omega) (by omega)
  obtain ⟨r3, q3, e3, f3, a3, b3⟩ := draw q2 3 (by omega) (by omega)
  obtain ⟨r4, q4, e4, f4, a4, b4⟩ := draw q3 d (by omega) (by omega)
  obtain ⟨r5, q5, e5, f5, a5, b5⟩ := draw q4 3 (by omega) (by omega)
  obtain ⟨r6, q6, e6, f6, a6, b6⟩ := draw q5 3 (by omega) (by omega)
  have s1 : sm mx := sm_lt (by omega) (by omega)
  have s2 : sm (c - (1 + r0) + 1) := sm_lt (by omega) (by omega)
  have s3 : sm d := sm_lt (by omega) (by omega)
  have p1 : 0 < mx := by omega
  have p2 : 0 < c - (1 + r0) + 1 := by omega
  have p3 : 0 < d := by omega
  have G := gd_in (a := a) (d := d) (e := e) (q := r4) (x := r5) (n := r1) (y := r6) (m := r2) (c := 1 + r0) ⟨a4, b4⟩ (by omega) ⟨a5, by omega⟩ ⟨a1, by omega⟩ ⟨a6, by omega⟩ ⟨a2, by omega⟩ ⟨by omega, by omega⟩
  unfold f__law_transfer s__law_transfer M
  rcases (show r3 = 0 ∨ r3 = 1 ∨ r3 = 2 by omega) with rfl | rfl | rfl
  · refine ⟨.inn r4 r5 r1 r6 r2 (1 + r0), q6, ?_, G.1, .inl rfl⟩
    simp [e0, f0, hmx, s1, p1, e1, f1, s2, p2, e2, f2, e3, f3, s3, p3, e4, f4, e5, f5, e6, f6, iD]
  · refine ⟨.inn r4 r5 r1 r6 r2 (1 + r0), q6, ?_, G.1, .inl rfl⟩
    simp [e0, f0, hmx, s1, p1, e1, f1, s2, p2, e2, f2, e3, f3, s3, p3, e4, f4, e5, f5, e6, f6, iD]
  · refine ⟨.out r4 r5 r1 r6 r2 (1 + r0), q6, ?_, G.2, .inr rfl⟩
    simp [e0, f0, hmx, s1, p1, e1, f1, s2, p2, e2, f2, e3, f3, s3, p3, e4, f4, e5, f5, e6, f6, iD]
theorem instr_gen {a b c d e : Int} (g : GS a b c d e) (q : Dst) (r : List Cell) : ∃ (i : Ins) (q' : Dst), f__law_instruction [.ref 1, M a b c d e] (dh q r) = .ok (iD i) (dh q' r) ∧ gd a d e i ∧ nmI i ≠ "loop" ∧ nmI i ≠ "end" ∧ nmI i ≠ "skip" := by
  have g0 := g
  obtain ⟨⟨g1, g2⟩, ⟨g3, g4⟩, ⟨g5, g6⟩, ⟨g7, g8⟩, ⟨g9, g10⟩⟩ := g
  obtain ⟨m, q0, e0, f0, a0, b0⟩ := draw q 13 (by omega) (by omega)
  have sc : sm c := sm_lt (by omega) (by omega)
  have sd : sm d := sm_lt (by omega) (by omega)
  have se : sm e := sm_lt (by omega) (by omega)
  have pc : 0 < c := by omega
  have pd : 0 < d := by omega
  have pe : 0 < e := by omega
  unfold f__law_instruction s__law_instruction
  by_cases m2 : m < 2
  · obtain ⟨r1, q1, e1, f1, a1, b1⟩ := draw q0 6 (by omega) (by omega)
    by_cases m0 : m = 0
    · subst m0
      obtain ⟨r2, q2, e2, f2, a2, b2⟩ := draw q1 3 (by omega) (by omega)
      refine ⟨.set r1 r2, q2, ?_, gd_set g1 ⟨a1, by omega⟩ ⟨by omega, by omega⟩, by simp [nmI], by simp [nmI], by simp [nmI]⟩
      simp [e0, f0, e1, f1, e2, f2, iD]
    · obtain ⟨x, q2, x1, x2, e2⟩ := signed_ap (q := q1) (r := r) (m := 40) (by omega) (by omega)
      refine ⟨.set r1 x, q2, ?_, gd_set g1 ⟨a1, by omega⟩ ⟨by omega, by omega⟩, by simp [nmI], by simp [nmI], by simp [nmI]⟩
      simp [e0, f0, m2, m0, e1, f1, e2, iD]
  by_cases m5 : m < 5
  · obtain ⟨i, q1, e1, G, nm⟩ := do_gen (d := d) (e := e) g1 q0 r
    refine ⟨i, q1, ?_, G, by rw [nm]; simp, by rw [nm]; simp, by rw [nm]; simp⟩
    have mi := mrD i
    simp [e0, f0, m2, m5, e1, mi]
  by_cases me5 : m = 5
  · subst me5
    obtain ⟨r1, q1, e1, f1, a1, b1⟩ := draw q0 4 (by omega) (by omega)
    obtain ⟨r2, q2, e2, f2, a2, b2⟩ := draw q1 4 (by omega) (by omega)
    obtain ⟨r3, q3, e3, f3, a3, b3⟩ := draw q2 c (by omega) (by omega)
    refine ⟨.load (2 + r1) r2 r3, q3, ?_, gd_load ⟨by omega, by omega⟩ ⟨a2, by omega⟩ ⟨a3, by omega⟩, by simp [nmI], by simp [nmI], by simp [nmI]⟩
    unfold M
    simp [e0, f0, e1, f1, e2, f2, sc, pc, e3, f3, iD]
  by_cases me6 : m = 6
  · subst me6
    obtain ⟨r1, q1, e1, f1, a1, b1⟩ := draw q0 4 (by omega) (by omega)
    obtain ⟨r2, q2, e2, f2, a2, b2⟩ := draw q1 c (by omega) (by omega)
    obtain ⟨r3, q3, e3, f3, a3, b3⟩ := draw q2 6 (by omega) (by omega)
    refine ⟨.store r1 r2 r3, q3, ?_, gd_store ⟨by omega, by omega⟩ ⟨a2, by omega⟩ ⟨a3, by omega⟩, by simp [nmI], by simp [nmI], by simp [nmI]⟩
    unfold M
    simp [e0, f0, e1, f1, e2, f2, sc, pc, e3, f3, iD]
  by_cases me7 : m = 7
  · subst me7
    obtain ⟨r1, q1, e1, f1, a1, b1⟩ := draw q0 e (by omega) (by omega)
    obtain ⟨r2, q2, e2, f2, a2, b2⟩ := draw q1 4 (by omega) (by omega)
    obtain ⟨r3, q3, e3, f3, a3, b3⟩ := draw q2 3 (by omega) (by omega)
    obtain ⟨r4, q4, e4, f4, a4, b4⟩ := draw q3 3 (by omega) (by omega)
    obtain ⟨r5, q5, e5, f5, a5, b5⟩ := draw q4 3 (by omega) (by omega)
    refine ⟨.mac (2 + r2) r3 r4 r5 1 (1 + r1), q5, ?_, gd_mac ⟨by omega, by omega⟩ ⟨a3, by omega⟩ ⟨a4, by omega⟩ ⟨a5, by omega⟩ ⟨by omega, by omega⟩ ⟨by omega, by omega⟩ (by omega), by simp [nmI], by simp [nmI], by simp [nmI]⟩
    unfold M
    simp [e0, f0, se, pe, e1, f1, e2, f2, e3, f3, e4, f4, e5, f5, iD]
  by_cases me8 : m = 8
  · subst me8
    obtain ⟨r1, q1, e1, f1, a1, b1⟩ := draw q0 e (by omega) (by omega)
    obtain ⟨r2, q2, e2, f2, a2, b2⟩ := draw q1 7 (by omega) (by omega)
    obtain ⟨r3, q3, e3, f3, a3, b3⟩ := draw q2 3 (by omega) (by omega)
    obtain ⟨r4, q4, e4, f4, a4, b4⟩ := draw q3 3 (by omega) (by omega)
    obtain ⟨r5, q5, e5, f5, a5, b5⟩ := draw q4 3 (by omega) (by omega)
    obtain ⟨k, hk, kp, k2⟩ : ∃ k : Str, (∀ h, ixF (.tup [.str "add", .str "sub", .str "mul", .str "max", .str "min", .str "less", .str "equal"]) (.int r2) h = .ok (.str k) h) ∧ k ∈ PW ∧ args k = 2 := by
      rcases (show r2 = 0 ∨ r2 = 1 ∨ r2 = 2 ∨ r2 = 3 ∨ r2 = 4 ∨ r2 = 5 ∨ r2 = 6 by omega) with rfl | rfl | rfl | rfl | rfl | rfl | rfl
      · exact ⟨"add", fun h => by kernel_rfl, by simp [PW], by simp [args]⟩
      · exact ⟨"sub", fun h => by kernel_rfl, by simp [PW], by simp [args]⟩
      · exact ⟨"mul", fun h => by kernel_rfl, by simp [PW], by simp [args]⟩
      · exact ⟨"max", fun h => by kernel_rfl, by simp [PW], by simp [args]⟩
      · exact ⟨"min", fun h => by kernel_rfl, by simp [PW], by simp [args]⟩
      · exact ⟨"less", fun h => by kernel_rfl, by simp [PW], by simp [args]⟩
      · exact ⟨"equal", fun h => by kernel_rfl, by simp [PW], by simp [args]⟩
    refine ⟨.vec k r3 r4 r5 (1 + r1), q5, ?_, gd_vec kp k2 ⟨a3, by omega⟩ ⟨a4, by omega⟩ ⟨a5, by omega⟩ ⟨by omega, by omega⟩ (by omega), by simp [nmI], by simp [nmI], by simp [nmI]⟩
    have em : ∀ h, ixF (M a b c d e) (.int 4) h = .ok (.int e) h := fun h => by kernel_rfl
    simp [e0, f0, em, se, pe, e1, f1, e2, f2, hk, e3, f3, e4, f4, e5, f5, iD, -ixF_tupO]
  by_cases me9 : m = 9 ∨ m = 10
  · obtain ⟨i, q1, e1, G, nm⟩ := transfer_gen g0 q0 r
    refine ⟨i, q1, ?_, G, ?_, ?_, ?_⟩
    · have mi := mrD i
      rcases me9 with rfl | rfl <;> simp [e0, f0, e1, mi]
    all_goals (rcases nm with nm | nm <;> rw [nm] <;> simp)
  have n9 : ¬ m = 9 := fun z => me9 (.inl z)
  have n10 : ¬ m = 10 := fun z => me9 (.inr z)
  by_cases me11 : m = 11
  · subst me11
    obtain ⟨r1, q1, e1, f1, a1, b1⟩ := draw q0 d (by omega) (by omega)
    refine ⟨.wait r1, q1, ?_, gd_wait ⟨a1, b1⟩ (by omega), by simp [nmI], by simp [nmI], by simp [nmI]⟩
    unfold M
    simp [e0, f0, sd, pd, e1, f1, iD]
  · obtain ⟨r1, q1, e1, f1, a1, b1⟩ := draw q0 c (by omega) (by omega)
    obtain ⟨r2, q2, e2, f2, a2, b2⟩ := draw q1 6 (by omega) (by omega)
    refine ⟨.store 0 r1 r2, q2, ?_, gd_store ⟨by omega, by omega⟩ ⟨a1, by omega⟩ ⟨a2, by omega⟩, by simp [nmI], by simp [nmI], by simp [nmI]⟩
    have m12 : m = 12 := by omega
    subst m12
    unfold M
    simp [e0, f0, sc, pc, e1, f1, e2, f2, iD]
end Lk47

set_option exponentiation.threshold 5000
namespace Lk47
open PySem PySem.Spec PyProof.Rows L2 Dy
/-! ### blocks -/
def plain (i : Ins) : Prop := nmI i ≠ "loop" ∧ nmI i ≠ "end" ∧ nmI i ≠ "skip"
inductive Blk (a d e : Int) : Nat → List Ins → Prop
  | nil {n : Nat} : Blk a d e n []
  | one {n : Nat} {is : List Ins} {i : Ins} : Blk a d e n is → gd a d e i → plain i → Blk a d e n (is ++ [i])
  | loop {n : Nat} {is inner : List Ins} {v s t c : Int} : Blk a d e (n + 1) is → Blk a d e n inner → gd a d e (.loop v s t c) → 1 ≤ c → c ≤ 3 → Blk a d e (n + 1) (is ++ (Ins.loop v s t c :: (inner ++ [Ins.fin])))
  | skip {n : Nat} {is inner : List Ins} {v : Int} : Blk a d e (n + 1) is → Blk a d e n inner → gd a d e (.skip v (inner.length : Int)) → Blk a d e (n + 1) (is ++ (.skip v (inner.length : Int) :: inner))
section
variable {a d e : Int}
theorem gd_fin : gd a d e .fin := ⟨trivial, rfl, rfl, fun n hn => (by cases hn), by simp [inI]⟩
theorem blk_gd {n : Nat} {is : List Ins} (b : Blk a d e n is) : ∀ i ∈ is, gd a d e i := by
  induction b with
  | nil => intro i hi; cases hi
  | one _ g _ ih =>
    intro j hj
    rcases List.mem_append.mp hj with hj | hj
    · exact ih j hj
    · rw [List.mem_singleton.mp hj]; exact g
  | loop _ _ g _ _ i1 i2 =>
    intro j hj
    rcases List.mem_append.mp hj with hj | hj
    · exact i1 j hj
    · rcases List.mem_cons.mp hj with rfl | hj
      · exact g
      · rcases List.mem_append.mp hj with hj | hj
        · exact i2 j hj
        · rw [List.mem_singleton.mp hj]; exact gd_fin
  | skip _ _ g i1 i2 =>
    intro j hj
    rcases List.mem_append.mp hj with hj | hj
    · exact i1 j hj
    · rcases List.mem_cons.mp hj with rfl | hj
      · exact g
      · exact i2 j hj
theorem dep_plain {i : Ins} {r : List Ins} {x : Int} {acc : List Int} (h1 : nmI i ≠ "end") (h2 : nmI i ≠ "loop") : dep (i :: r) x acc = dep r x (acc ++ [x]) := by
  show (if nmI i = "end" then _ else if nmI i = "loop" then _ else _) = _
  rw [if_neg h1, if_neg h2]
theorem dep_loop {i : Ins} {r : List Ins} {x : Int} {acc : List Int} (h1 : nmI i ≠ "end") (h2 : nmI i = "loop") : dep (i :: r) x acc = dep r (x + 1) (acc ++ [x]) := by
  show (if nmI i = "end" then _ else if nmI i = "loop" then _ else _) = _
  rw [if_neg h1, if_pos h2]
theorem dep_end {r : List Ins} {x : Int} {acc : List Int} (h : 0 ≤ x) : dep (.fin :: r) (x + 1) acc = dep r x (acc ++ [x]) := by
  show (if nmI .fin = "end" then (if x + 1 - 1 < 0 then none else dep r (x + 1 - 1) (acc ++ [x + 1 - 1])) else _) = _
  rw [if_pos (show nmI .fin = "end" from rfl), if_neg (by omega), show x + 1 - 1 = x by omega]
theorem blk_dep {n : Nat} {is : List Ins} (b : Blk a d e n is) : ∀ x : Int, 0 ≤ x → ∃ ds : List Int, (∀ y ∈ ds, y ≤ x + n) ∧ ∀ acc rest, dep (is ++ rest) x acc = dep rest x (acc ++ ds) := by
  induction b with
  | nil => intro x _; exact ⟨[], fun y hy => (by cases hy), fun acc rest => by simp⟩
  | one _ _ p ih =>
    intro x hx
    obtain ⟨ds, h1, h2⟩ := ih x hx
    refine ⟨ds ++ [x], fun y hy => ?_, fun acc rest => ?_⟩
    · rcases List.mem_append.mp hy with hy | hy
      · exact h1 y hy
      · rw [List.mem_singleton.mp hy]; omega
    · rw [List.append_assoc, h2, List.singleton_append, dep_plain p.2.1 p.1, List.append_assoc]
  | loop _ _ _ _ _ i1 i2 =>
    intro x hx
    obtain ⟨ds, h1, h2⟩ := i1 x hx
    obtain ⟨ds2, h3, h4⟩ := i2 (x + 1) (by omega)
    refine ⟨ds ++ ([x] ++ (ds2 ++ [x])), fun y hy => ?_, fun acc rest => ?_⟩
    · rcases List.mem_append.mp hy with hy | hy
      · exact h1 y hy
      · rcases List.mem_append.mp hy with hy | hy
        · rw [List.mem_singleton.mp hy]; omega
        · rcases List.mem_append.mp hy with hy | hy
          · have := h3 y hy; omega
          · rw [List.mem_singleton.mp hy]; omega
    · rw [List.append_assoc, h2, List.cons_append, dep_loop (by simp [nmI]) rfl, List.append_assoc, h4, List.singleton_append, dep_end hx]
      simp only [List.append_assoc]
  | skip _ _ _ i1 i2 =>
    intro x hx
    obtain ⟨ds, h1, h2⟩ := i1 x hx
    obtain ⟨ds2, h3, h4⟩ := i2 x hx
    refine ⟨ds ++ ([x] ++ ds2), fun y hy => ?_, fun acc rest => ?_⟩
    · rcases List.mem_append.mp hy with hy | hy
      · exact h1 y hy
      · rcases List.mem_append.mp hy with hy | hy
        · rw [List.mem_singleton.mp hy]; omega
        · have := h3 y hy; omega
    · rw [List.append_assoc, h2, List.cons_append, dep_plain (by simp [nmI]) (by simp [nmI]), h4]
      simp only [List.append_assoc]
/-- skipping over a block -/
theorem skp_one {L : List Ins} {i : Ins} {n k : Nat} {x : Int} (q : L[k]? = some i) (hx : 0 ≤ x) (h1 : nmI i ≠ "loop") (h2 : nmI i ≠ "end") : skp L (n + 1) k x = skp L n (k + 1) x := by
  show (match L[k]? with | none => none | some i => if (if nmI i = "loop" then x + 1 else if nmI i = "end" then x - 1 else x) < 0 then none else skp L n (k + 1) (if nmI i = "loop" then x + 1 else if nmI i = "end" then x - 1 else x)) = _
  rw [q]
  simp only [if_neg h1, if_neg h2]
  rw [if_neg (by omega)]
theorem skp_lp {L : List Ins} {i : Ins} {n k : Nat} {x : Int} (q : L[k]? = some i) (hx : 0 ≤ x) (h1 : nmI i = "loop") : skp L (n + 1) k x = skp L n (k + 1) (x + 1) := by
  show (match L[k]? with | none => none | some i => if (if nmI i = "loop" then x + 1 else if nmI i = "end" then x - 1 else x) < 0 then none else skp L n (k + 1) (if nmI i = "loop" then x + 1 else if nmI i = "end" then x - 1 else x)) = _
  rw [q]
  simp only [if_pos h1]
  rw [if_neg (by omega)]
theorem skp_fn {L : List Ins} {n k : Nat} {x : Int} (q : L[k]? = some .fin) (hx : 0 ≤ x) : skp L (n + 1) k (x + 1) = skp L n (k + 1) x := by
  show (match L[k]? with | none => none | some i => if (if nmI i = "loop" then x + 1 + 1 else if nmI i = "end" then x + 1 - 1 else x + 1) < 0 then none else skp L n (k + 1) (if nmI i = "loop" then x + 1 + 1 else if nmI i = "end" then x + 1 - 1 else x + 1)) = _
  rw [q]
  simp only [if_neg (show ¬ nmI .fin = "loop" by simp [nmI]), if_pos (show nmI .fin = "end" from rfl)]
  rw [if_neg (by omega), show x + 1 - 1 = x by omega]
theorem at_mid {pre post : List Ins} {i : Ins} {k : Nat} (h : pre.length = k) : (pre ++ i :: post)[k]? = some i := by
  rw [List.getElem?_append_right (by omega), ← h, Nat.sub_self]; rfl
theorem blk_skp {n : Nat} {is : List Ins} (b : Blk a d e n is) : ∀ (pre post : List Ins) (m : Nat) (x : Int), 0 ≤ x → skp (pre ++ (is ++ post)) (is.length + m) pre.length x = skp (pre ++ (is ++ post)) m (pre.length + is.length) x := by
  induction b with
  | nil => intro pre post m x _; simp
  | @one n is i _ _ p ih =>
    intro pre post m x hx
    have h := ih pre ([i] ++ post) (1 + m) x hx
    rw [← List.append_assoc is] at h
    have e : (is ++ [i]).length + m = is.length + (1 + m) := by simp; omega
    rw [e, h, Nat.add_comm 1 m, skp_one (i := i) (by rw [show pre ++ (is ++ [i] ++ post) = (pre ++ is) ++ i :: post by simp]; exact at_mid (by simp)) hx p.1 p.2.1]
    congr 1
    simp; omega
  | @loop n is inner v s t c _ _ _ _ _ i1 i2 =>
    intro pre post m x hx
    have h := i1 pre ((Ins.loop v s t c :: (inner ++ [Ins.fin])) ++ post) (inner.length + 2 + m) x hx
    rw [← List.append_assoc is] at h
    generalize hW : pre ++ (is ++ (Ins.loop v s t c :: (inner ++ [Ins.fin])) ++ post) = W at *
    have e : (is ++ (Ins.loop v s t c :: (inner ++ [Ins.fin]))).length + m = is.length + (inner.length + 2 + m) := by simp; omega
    have w1 : W = (pre ++ is) ++ Ins.loop v s t c :: (inner ++ [.fin] ++ post) := by rw [← hW]; simp
    have w2 : W = (pre ++ is ++ [.loop v s t c]) ++ (inner ++ ([.fin] ++ post)) := by rw [← hW]; simp
    have w3 : W = (pre ++ is ++ [.loop v s t c] ++ inner) ++ Ins.fin :: post := by rw [← hW]; simp
    have h2 := i2 (pre ++ is ++ [.loop v s t c]) ([.fin] ++ post) (1 + m) (x + 1) (by omega)
    rw [← w2] at h2
    have l1 : (pre ++ is ++ [Ins.loop v s t c]).length = pre.length + is.length + 1 := by simp; omega
    rw [l1] at h2
    rw [e, h, show inner.length + 2 + m = (inner.length + (1 + m)) + 1 by omega, skp_lp (i := .loop v s t c) (by rw [w1]; exact at_mid (by simp)) hx rfl, h2, Nat.add_comm 1 m, skp_fn (by rw [w3]; exact at_mid (by simp; omega)) hx]
    congr 1
    simp; omega
  | @skip n is inner v _ _ _ i1 i2 =>
    intro pre post m x hx
    have h := i1 pre ((Ins.skip v (inner.length : Int) :: inner) ++ post) (inner.length + 1 + m) x hx
    rw [← List.append_assoc is] at h
    generalize hW : pre ++ (is ++ (Ins.skip v (inner.length : Int) :: inner) ++ post) = W at *
    have e : (is ++ (.skip v (inner.length : Int) :: inner)).length + m = is.length + (inner.length + 1 + m) := by simp; omega
    have w1 : W = (pre ++ is) ++ Ins.skip v (inner.length : Int) :: (inner ++ post) := by rw [← hW]; simp
    have w2 : W = (pre ++ is ++ [.skip v (inner.length : Int)]) ++ (inner ++ post) := by rw [← hW]; simp
    have h2 := i2 (pre ++ is ++ [.skip v (inner.length : Int)]) post m x hx
    rw [← w2] at h2
    have l1 : (pre ++ is ++ [Ins.skip v (inner.length : Int)]).length = pre.length + is.length + 1 := by simp; omega
    rw [l1] at h2
    rw [e, h, show inner.length + 1 + m = (inner.length + m) + 1 by omega, skp_one (i := .skip v (inner.length : Int)) (by rw [w1]; exact at_mid (by simp)) hx (by simp [nmI]) (by simp [nmI]), h2]
    congr 1
    simp; omega
theorem skK_plain {L : List Ins} {k : Nat} {i : Ins} (q : L[k]? = some i) (h : nmI i ≠ "skip") : skK L k = true := by
  unfold skK
  rw [q]
  cases i <;> first | rfl | exact absurd rfl h
theorem blk_sk {n : Nat} {is : List Ins} (b : Blk a d e n is) : ∀ (pre post : List Ins) (j : Nat), j < is.length → skK (pre ++ (is ++ post)) (pre.length + j) = true := by
  induction b with
  | nil => intro pre post j h; simp at h
  | @one n is i _ _ p ih =>
    intro pre post j h
    by_cases c : j < is.length
    · have := ih pre ([i] ++ post) j c
      rw [← List.append_assoc is] at this
      exact this
    · have ej : j = is.length := by simp at h; omega
      subst ej
      exact skK_plain (i := i) (by rw [show pre ++ (is ++ [i] ++ post) = (pre ++ is) ++ i :: post by simp]; exact at_mid (by simp)) p.2.2
  | @loop n is inner v s t c _ _ _ _ _ i1 i2 =>
    intro pre post j h
    by_cases c1 : j < is.length
    · have := i1 pre ((Ins.loop v s t c :: (inner ++ [Ins.fin])) ++ post) j c1
      rw [← List.append_assoc is] at this
      exact this
    · by_cases c2 : j = is.length
      · subst c2
        exact skK_plain (i := .loop v s t c) (by rw [show pre ++ (is ++ (Ins.loop v s t c :: (inner ++ [Ins.fin])) ++ post) = (pre ++ is) ++ Ins.loop v s t c :: (inner ++ [.fin] ++ post) by simp]; exact at_mid (by simp)) (by simp [nmI])
      · by_cases c3 : j < is.length + 1 + inner.length
        · have := i2 (pre ++ is ++ [.loop v s t c]) ([.fin] ++ post) (j - is.length - 1) (by omega)
          rw [show (pre ++ is ++ [Ins.loop v s t c]).length + (j - is.length - 1) = pre.length + j by simp; omega, show (pre ++ is ++ [Ins.loop v s t c]) ++ (inner ++ ([.fin] ++ post)) = pre ++ (is ++ (Ins.loop v s t c :: (inner ++ [Ins.fin])) ++ post) by simp] at this
          exact this
        · have ej : j = is.length + 1 + inner.length := by simp at h; omega
          subst ej
          exact skK_plain (i := .fin) (by rw [show pre ++ (is ++ (Ins.loop v s t c :: (inner ++ [Ins.fin])) ++ post) = (pre ++ is ++ [.loop v s t c] ++ inner) ++ Ins.fin :: post by simp]; exact at_mid (by simp; omega)) (by simp [nmI])
  | @skip n is inner v _ b2 _ i1 i2 =>
    intro pre post j h
    by_cases c1 : j < is.length
    · have := i1 pre ((Ins.skip v (inner.length : Int) :: inner) ++ post) j c1
      rw [← List.append_assoc is] at this
      exact this
    · by_cases c2 : j = is.length
      · subst c2
        have w1 : pre ++ (is ++ (Ins.skip v (inner.length : Int) :: inner) ++ post) = (pre ++ is) ++ Ins.skip v (inner.length : Int) :: (inner ++ post) := by simp
        have w2 : pre ++ (is ++ (Ins.skip v (inner.length : Int) :: inner) ++ post) = (pre ++ is ++ [.skip v (inner.length : Int)]) ++ (inner ++ post) := by simp
        have q : (pre ++ (is ++ (Ins.skip v (inner.length : Int) :: inner) ++ post))[pre.length + is.length]? = some (.skip v (inner.length : Int)) := by rw [w1]; exact at_mid (by simp)
        have sp := blk_skp b2 (pre ++ is ++ [.skip v (inner.length : Int)]) post 0 0 (by omega)
        rw [← w2] at sp
        unfold skK
        rw [q]
        show skOk _ _ _ = true
        unfold skOk
        rw [decide_eq_true_eq, Int.toNat_natCast]
        have l1 : (pre ++ is ++ [Ins.skip v (inner.length : Int)]).length = pre.length + is.length + 1 := by simp; omega
        rw [l1, Nat.add_zero] at sp
        rw [sp]; rfl
      · have := i2 (pre ++ is ++ [.skip v (inner.length : Int)]) post (j - is.length - 1) (by simp at h; omega)
        rw [show (pre ++ is ++ [Ins.skip v (inner.length : Int)]).length + (j - is.length - 1) = pre.length + j by simp; omega, show (pre ++ is ++ [Ins.skip v (inner.length : Int)]) ++ (inner ++ post) = pre ++ (is ++ (Ins.skip v (inner.length : Int) :: inner) ++ post) by simp] at this
        exact this
theorem blk_st {n : Nat} {is : List Ins} (b : Blk a d e n is) : ∃ x : Int, 0 ≤ x ∧ x ≤ (is.length : Int) * 7 ^ n ∧ ∀ (rest : List Ins) (ts cs : List Int) (t : Int), stS (is ++ rest) (ts ++ [t]) cs = stS rest (ts ++ [t + x]) cs := by
  induction b with
  | nil => exact ⟨0, by omega, by simp, fun rest ts cs t => by simp⟩
  | @one n is i _ _ p ih =>
    obtain ⟨x, h1, h2, h3⟩ := ih
    refine ⟨x + 1, by omega, ?_, fun rest ts cs t => ?_⟩
    · have : (1 : Int) ≤ 7 ^ n := Int.pow_pos (by decide)
      rw [List.length_append, Int.natCast_add, Int.add_mul]
      show x + 1 ≤ _ + 1 * 7 ^ n
      omega
    · rw [List.append_assoc, h3, List.singleton_append, stS_other p.1 p.2.1, Int.add_assoc]
  | @loop n is inner v s t c _ _ _ c1 c3 i1 i2 =>
    obtain ⟨x, h1, h2, h3⟩ := i1
    obtain ⟨y, g1, g2, g3⟩ := i2
    have P : (1 : Int) ≤ 7 ^ n := Int.pow_pos (by decide)
    have cy1 : 0 ≤ c * (y + 1) := Int.mul_nonneg (by omega) (by omega)
    have cy2 : c * (y + 1) ≤ 3 * (y + 1) := Int.mul_le_mul_of_nonneg_right c3 (by omega)
    refine ⟨x + (1 + c * (y + 1)), by omega, ?_, fun rest ts cs u => ?_⟩
    · have e : ((is ++ (Ins.loop v s t c :: (inner ++ [.fin]))).length : Int) = (is.length : Int) + ((inner.length : Int) + 2) := by simp; omega
      rw [e, Int.add_mul, Int.add_mul, Int.pow_succ]
      rw [Int.pow_succ] at h2
      have r1 : (inner.length : Int) * (7 ^ n * 7) = 7 * ((inner.length : Int) * 7 ^ n) := by rw [← Int.mul_assoc, Int.mul_comm]
      rw [r1]
      have z : 0 ≤ (inner.length : Int) * 7 ^ n := by omega
      generalize (inner.length : Int) * 7 ^ n = Z at *
      generalize (7 : Int) ^ n = Q at *
      generalize (is.length : Int) * (Q * 7) = R at *
      omega
    · rw [List.append_assoc, h3, List.cons_append, stS_loop, List.append_assoc, g3, List.singleton_append]
      rw [Int.zero_add, stS_fin, Int.add_assoc, Int.add_assoc]
  | @skip n is inner v _ _ _ i1 i2 =>
    obtain ⟨x, h1, h2, h3⟩ := i1
    obtain ⟨y, g1, g2, g3⟩ := i2
    have P : (1 : Int) ≤ 7 ^ n := Int.pow_pos (by decide)
    refine ⟨x + (1 + y), by omega, ?_, fun rest ts cs u => ?_⟩
    · have e : ((is ++ (Ins.skip v (inner.length : Int) :: inner)).length : Int) = (is.length : Int) + ((inner.length : Int) + 1) := by simp
      rw [e, Int.add_mul, Int.add_mul, Int.pow_succ]
      rw [Int.pow_succ] at h2
      have r1 : (inner.length : Int) * (7 ^ n * 7) = 7 * ((inner.length : Int) * 7 ^ n) := by rw [← Int.mul_assoc, Int.mul_comm]
      rw [r1]
      generalize (inner.length : Int) * 7 ^ n = Z at *
      generalize (7 : Int) ^ n = Q at *
      generalize (is.length : Int) * (Q * 7) = R at *
      omega
    · rw [List.append_assoc, h3, List.cons_append, stS_other (by simp [nmI]) (by simp [nmI]), g3]
      rw [Int.add_assoc, Int.add_assoc]
theorem blk_chk {is : List Ins} (b : Blk a d e 3 is) (l : is.length ≤ 1000) : chk a d e is = none := by
  obtain ⟨ds, h1, h2⟩ := blk_dep b 0 (by omega)
  have h2 := h2 [] []
  rw [List.append_nil, List.nil_append] at h2
  have h2 : dep is 0 [] = some (ds, 0) := h2
  obtain ⟨x, s1, s2, s3⟩ := blk_st b
  have s3 := s3 [] [] [1] 0
  rw [List.append_nil] at s3
  have v : stV is = x := by
    unfold stV
    have s3 : stS is [0] [1] = ([0 + x], [1]) := s3
    rw [s3]; simp
  have wfa : is.all wf = true := List.all_eq_true.mpr fun i hi => (blk_gd b i hi).2.1
  have ira : is.all (ir a d e) = true := List.all_eq_true.mpr fun i hi => (blk_gd b i hi).2.2.1
  have ska : skA is = true := List.all_eq_true.mpr fun j hj => by
    have := blk_sk b [] [] j (List.mem_range.mp hj)
    rw [List.nil_append, List.append_nil] at this
    have e : ([] : List Ins).length + j = j := by simp
    rw [e] at this
    exact this
  have mx : ¬ 16 < maxI (0 :: ds) := by
    have := (maxI_spec (ns := 0 :: ds) (by simp)).1
    rcases List.mem_cons.mp this with e | e
    · omega
    · have := h1 _ e; omega
  unfold chk
  rw [if_pos wfa, h2]
  simp only [if_true]
  rw [if_pos ska, if_pos ira, if_neg]
  rw [v]
  have : (7 : Int) ^ 3 = 343 := by decide
  rw [this] at s2
  omega
end
end Lk47

set_option exponentiation.threshold 5000
namespace Lk47
open PySem PySem.Spec PyProof.Rows L2 Dy
theorem gd_loop {a d e v s t c : Int} (ha : 32 ≤ a) (hv : 0 ≤ v ∧ v ≤ 31) (hs : -100 ≤ s ∧ s ≤ 100) (ht : -2 ≤ t ∧ t ≤ 2) (hc : 1 ≤ c ∧ c ≤ 3) : gd a d e (.loop v s t c) := by
  have p : (2 : Int) ^ 32 ≤ 2 ^ a.toNat := by
    have : (2 : Nat) ^ 32 ≤ 2 ^ a.toNat := Nat.pow_le_pow_right (by decide) (by omega)
    exact_mod_cast this
  have p2 : (2 : Int) ^ 32 = 4294967296 := by decide
  have m : -4 ≤ t * (c - 1) ∧ t * (c - 1) ≤ 4 := by
    rcases (show c = 1 ∨ c = 2 ∨ c = 3 by omega) with rfl | rfl | rfl <;> exact ⟨by omega, by omega⟩
  refine ⟨trivial, rfl, ?_, ?_, by simp [inI]⟩
  · show (inb 0 v 31 && true && (true && lir a s t c)) = true
    unfold lir
    rw [inb_t hv.1 hv.2, inb_t hc.1 (by omega), inb_t (by omega) (by omega), inb_t (by omega) (by omega), fit_sm ha (by omega) (by omega), fit_sm ha (by omega) (by omega)]; rfl
  · intro x hx
    simp only [inI, List.mem_cons, List.not_mem_nil, or_false] at hx
    rcases hx with rfl | rfl | rfl | rfl <;> exact ⟨by omega, by omega⟩
theorem gd_skip {a d e v n : Int} (hv : 0 ≤ v ∧ v ≤ 31) (hn : 0 ≤ n ∧ n < 100000) : gd a d e (.skip v n) := by
  refine ⟨trivial, rfl, ?_, ?_, by simp [inI]⟩
  · show (inb 0 v 31 && true && (true && inb 0 n 4000000)) = true
    rw [inb_t hv.1 hv.2, inb_t hn.1 (by omega)]; rfl
  · intro x hx
    simp only [inI, List.mem_cons, List.not_mem_nil, or_false] at hx
    rcases hx with rfl | rfl <;> exact ⟨by omega, by omega⟩
/-! ### a list of instructions in the heap -/
def AT (R : List Cell) (m : Nat) (is : List Ins) : Prop := 2 ≤ m ∧ R[m - 2]? = some (.lst (is.map iD))
section
variable {R : List Cell} {m : Nat} {is js : List Ins} {q : Dst}
theorem AT.at_ (a : AT R m is) : (dh q R).at m = some (.lst (is.map iD)) := by
  obtain ⟨h1, h2⟩ := a
  have e : m = (m - 2) + 2 := by omega
  rw [e, dh_cs]; exact h2
theorem AT.lt (a : AT R m is) : m < R.length + 2 := by
  have := (List.getElem?_eq_some_iff.mp a.2).1
  omega
theorem AT.app (a : AT R m is) (g : List Cell) : AT (R ++ g) m is := ⟨a.1, by
  have := a.lt
  have h1 := a.1
  rw [List.getElem?_append_left (by omega)]; exact a.2⟩
theorem AT.new {R : List Cell} {is : List Ins} : AT (R ++ [.lst (is.map iD)]) (R.length + 2) is := ⟨by omega, by simp⟩
theorem AT.take (a : AT R m is) {k : Nat} (h : m < k + 2) : AT (R.take k) m is := ⟨a.1, by
  rw [List.getElem?_take_of_lt (by have := a.1; omega)]; exact a.2⟩
theorem AT.add {n : Nat} (a : AT R m is) (b : AT R n js) (l : is.length + js.length ≤ 1000000) : addF (.ref m) (.ref n) (dh q R) = .ok (.ref (R.length + 2)) (dh q (R ++ [.lst ((is ++ js).map iD)])) := by
  rw [ladd_ap a.at_ b.at_ (by rw [List.length_map, List.length_map]; omega), List.map_append]; rfl
theorem AT.set (a : AT R m is) (js : List Ins) : AT (R.set (m - 2) (.lst (js.map iD))) m js := ⟨a.1, by
  have := a.lt
  have h1 := a.1
  rw [List.getElem?_set_self (by omega)]⟩
theorem AT.ap (a : AT R m is) {i : Ins} (l : is.length ≤ 1000000) : appF (.ref m) [iD i] (dh q R) = .ok .non (dh q (R.set (m - 2) (.lst ((is ++ [i]).map iD)))) := by
  have h1 := a.1
  rw [app_ap a.at_ (by rw [List.length_map]; omega)]
  have e : is.map iD ++ [iD i] = (is ++ [i]).map iD := by rw [List.map_append]; rfl
  rw [e]
  have := dh_put (q := q) (r := R) (n := m - 2) (c := .lst ((is ++ [i]).map iD)) (by rw [show (Cell.lst ((is ++ [i]).map iD)).mr = 0 from mrIs]; omega)
  rw [show m - 2 + 2 = m by omega] at this
  rw [this]
end
def SZ : Nat → Nat
  | 0 => 1
  | n + 1 => 2 + 3 * SZ n
theorem SZ_pos : ∀ n, 1 ≤ SZ n
  | 0 => Nat.le_refl _
  | n + 1 => by have := SZ_pos n; simp only [SZ]; omega
/-- what a call leaves -/
def BO (a d e : Int) (n l : Nat) (R : List Cell) (q' : Dst) (g : List Cell) (m : Nat) (is : List Ins) : Prop := AT (R ++ g) m is ∧ R.length + 2 ≤ m ∧ Blk a d e n is ∧ is.length ≤ l
theorem plain_of {i : Ins} (h1 : nmI i ≠ "loop") (h2 : nmI i ≠ "end") (h3 : nmI i ≠ "skip") : plain i := ⟨h1, h2, h3⟩
def RecOk (F : Fn) (a b c d e : Int) (n : Nat) (dp : Int) : Prop := ∀ (many : Int) (q : Dst) (R : List Cell), 1 ≤ many → many ≤ 3 → ∃ q' g m is, F [.ref 1, M a b c d e, .int dp, .int many] (dh q R) = .ok (.ref m) (dh q' (R ++ g)) ∧ BO a d e n (many.toNat * SZ n) R q' g m is
theorem step_loop {F : Fn} {a b c d e dp : Int} {n : Nat} (g0 : GS a b c d e) (rc : RecOk F a b c d e n (dp + 1)) (hd : dp < 3) {R : List Cell} {m : Nat} {is : List Ins} {q q0 : Dst} {x3 x5 x6 x7 x8 : Option D} (A : AT R m is) (B : Blk a d e (n + 1) is) (L : is.length ≤ 100000) (SL : SZ n ≤ 17) (e0 : takeV q 9 = 0) (f0 : takeQ q 9 = q0) : ∃ q' g' m' is' x6' x7' x8', b__law_block_0 F [some (.ref 1), some (M a b c d e), some (.int dp), x3, some (.ref m), x5, x6, x7, x8] (dh q R) = .nxt [some (.ref 1), some (M a b c d e), some (.int dp), x3, some (.ref m'), x5, x6', x7', x8'] (dh q' (R ++ g')) ∧ AT (R ++ g') m' is' ∧ R.length + 2 ≤ m' ∧ Blk a d e (n + 1) is' ∧ is'.length ≤ is.length + SZ (n + 1) := by
  obtain ⟨r1, q1, e1, f1, a1, b1⟩ := draw q0 5 (by omega) (by omega)
  obtain ⟨x, q2, x1, x2, e2⟩ := signed_ap (q := q1) (r := R) (m := 2) (by omega) (by omega)
  obtain ⟨r3, q3, e3, f3, a3, b3⟩ := draw q2 3 (by omega) (by omega)
  obtain ⟨r4, q4, e4, f4, a4, b4⟩ := draw q3 3 (by omega) (by omega)
  obtain ⟨t, ht, t1, t2⟩ : ∃ t : Int, (∀ h, ixF (.tup [.int 1, .int 2, .int (-1)]) (.int r3) h = .ok (.int t) h) ∧ -2 ≤ t ∧ t ≤ 2 := by
    rcases (show r3 = 0 ∨ r3 = 1 ∨ r3 = 2 by omega) with rfl | rfl | rfl
    · exact ⟨1, fun h => by simp, by omega, by omega⟩
    · exact ⟨2, fun h => by simp, by omega, by omega⟩
    · exact ⟨-1, fun h => by simp, by omega, by omega⟩
  have hd' : decide (dp < 3) = true := decide_eq_true hd
  -- the head
  have A1 := A.app [.lst ([Ins.loop r1 x t (1 + r4)].map iD)]
  have N1 := AT.new (R := R) (is := [Ins.loop r1 x t (1 + r4)])
  have d1 := fun q => A1.add (q := q) N1 (by simp; omega)
  generalize hR1 : R ++ [.lst ([Ins.loop r1 x t (1 + r4)].map iD)] = R1 at *
  have p1 : ∀ q, (dh q R).push (.lst [.tup [.str "loop", .int r1, .int x, .int t, .int (1 + r4)]]) = dh q R1 := fun q => by rw [← hR1]; rfl
  have N2 := AT.new (R := R1) (is := is ++ [Ins.loop r1 x t (1 + r4)])
  generalize hR2 : R1 ++ [.lst ((is ++ [Ins.loop r1 x t (1 + r4)]).map iD)] = R2 at *
  obtain ⟨r5, q5, e5, f5, a5, b5⟩ := draw q4 3 (by omega) (by omega)
  obtain ⟨q6, g, m6, inner, e6, A6, m6l, B6, l6⟩ := rc (1 + r5) q5 R2 (by omega) (by omega)
  have l6' : inner.length ≤ 3 * SZ n := Nat.le_trans l6 (Nat.mul_le_mul_right _ (by omega))
  have N3 := N2.app g
  have d3 := N3.add (q := q6) A6 (by simp; omega)
  have N4 := AT.new (R := R2 ++ g) (is := is ++ [Ins.loop r1 x t (1 + r4)] ++ inner)
  generalize hR4 : R2 ++ g ++ [.lst ((is ++ [Ins.loop r1 x t (1 + r4)] ++ inner).map iD)] = R4 at *
  have N5 := N4.app [.lst ([Ins.fin].map iD)]
  have N6 := AT.new (R := R4) (is := [Ins.fin])
  have d5 := N5.add (q := q6) N6 (by simp; omega)
  rw [show (R2 ++ g).length = R2.length + g.length from List.length_append] at d5
  generalize hR5 : R4 ++ [.lst ([Ins.fin].map iD)] = R5 at *
  have p5 : (dh q6 R4).push (.lst [.tup [.str "end"]]) = dh q6 R5 := by rw [← hR5]; rfl
  have N7 := AT.new (R := R5) (is := is ++ [Ins.loop r1 x t (1 + r4)] ++ inner ++ [Ins.fin])
  obtain ⟨g', G⟩ : ∃ g', R5 ++ [.lst ((is ++ [Ins.loop r1 x t (1 + r4)] ++ inner ++ [Ins.fin]).map iD)] = R ++ g' := by
    rw [← hR5, ← hR4, ← hR2, ← hR1]; simp only [List.append_assoc]; exact ⟨_, rfl⟩
  have LR : R.length ≤ R5.length := by rw [← hR5, ← hR4, ← hR2, ← hR1]; simp only [List.length_append]; omega
  refine ⟨q6, g', R5.length + 2, is ++ (Ins.loop r1 x t (1 + r4) :: (inner ++ [Ins.fin])), some (.int 0), some (.tup [.str "loop", .int r1, .int x, .int t, .int (1 + r4)]), x8, ?_, ?_, by omega, ?_, ?_⟩
  rotate_left
  · rw [← G]
    have : is ++ (Ins.loop r1 x t (1 + r4) :: (inner ++ [Ins.fin])) = is ++ [Ins.loop r1 x t (1 + r4)] ++ inner ++ [Ins.fin] := by simp
    rw [this]; exact N7
  · exact .loop B B6 (gd_loop g0.1.1 ⟨a1, by omega⟩ ⟨by omega, by omega⟩ ⟨t1, t2⟩ ⟨by omega, by omega⟩) (by omega) (by omega)
  · simp [SZ]; omega
  · rw [← G]
    unfold b__law_block_0
    simp [hd', e0, f0, e1, f1, e2, e3, f3, ht, e4, f4, p1, d1, e5, f5, e6, d3, p5, d5, -ixF_tupO, -push_ap, -dh_push, -List.append_assoc, -List.map_append, -List.map_cons, -List.map_nil]
theorem step_skip {F : Fn} {a b c d e dp : Int} {n : Nat} (rc : RecOk F a b c d e n (dp + 1)) (hd : dp < 3) {R : List Cell} {m : Nat} {is : List Ins} {q q0 : Dst} {x3 x5 x6 x7 x8 : Option D} (A : AT R m is) (B : Blk a d e (n + 1) is) (L : is.length ≤ 100000) (SL : SZ n ≤ 17) (e0 : takeV q 9 = 1) (f0 : takeQ q 9 = q0) : ∃ q' g' m' is' x6' x7' x8', b__law_block_0 F [some (.ref 1), some (M a b c d e), some (.int dp), x3, some (.ref m), x5, x6, x7, x8] (dh q R) = .nxt [some (.ref 1), some (M a b c d e), some (.int dp), x3, some (.ref m'), x5, x6', x7', x8'] (dh q' (R ++ g')) ∧ AT (R ++ g') m' is' ∧ R.length + 2 ≤ m' ∧ Blk a d e (n + 1) is' ∧ is'.length ≤ is.length + SZ (n + 1) := by
  have hd' : decide (dp < 3) = true := decide_eq_true hd
  obtain ⟨r5, q5, e5, f5, a5, b5⟩ := draw q0 2 (by omega) (by omega)
  obtain ⟨q6, g, m6, inner, e6, A6, m6l, B6, l6⟩ := rc (1 + r5) q5 R (by omega) (by omega)
  have l6' : inner.length ≤ 2 * SZ n := Nat.le_trans l6 (Nat.mul_le_mul_right _ (by omega))
  obtain ⟨r1, q1, e1, f1, a1, b1⟩ := draw q6 5 (by omega) (by omega)
  have N1 := A.app g
  have ln : ∀ q, lenF (.ref m6) (dh q (R ++ g)) = .ok (.int (inner.length : Int)) (dh q (R ++ g)) := fun q => by
    rw [len_ref A6.at_, List.length_map]
  generalize hR1 : R ++ g = R1 at *
  have N2 := N1.app [.lst ([Ins.skip r1 (inner.length : Int)].map iD)]
  have N6 := A6.app [.lst ([Ins.skip r1 (inner.length : Int)].map iD)]
  have N3 := AT.new (R := R1) (is := [Ins.skip r1 (inner.length : Int)])
  have d1 := N2.add (q := q1) N3 (by simp; omega)
  generalize hR2 : R1 ++ [.lst ([Ins.skip r1 (inner.length : Int)].map iD)] = R2 at *
  have p1 : (dh q1 R1).push (.lst [.tup [.str "skip", .int r1, .int (inner.length : Int)]]) = dh q1 R2 := by rw [← hR2]; rfl
  have N4 := AT.new (R := R2) (is := is ++ [Ins.skip r1 (inner.length : Int)])
  have N7 := N6.app [.lst ((is ++ [Ins.skip r1 (inner.length : Int)]).map iD)]
  have d2 := N4.add (q := q1) N7 (by simp; omega)
  generalize hR3 : R2 ++ [.lst ((is ++ [Ins.skip r1 (inner.length : Int)]).map iD)] = R3 at *
  have N8 := AT.new (R := R3) (is := is ++ [Ins.skip r1 (inner.length : Int)] ++ inner)
  obtain ⟨g', G⟩ : ∃ g', R3 ++ [.lst ((is ++ [Ins.skip r1 (inner.length : Int)] ++ inner).map iD)] = R ++ g' := by
    rw [← hR3, ← hR2, ← hR1]; simp only [List.append_assoc]; exact ⟨_, rfl⟩
  have LR : R.length ≤ R3.length := by rw [← hR3, ← hR2, ← hR1]; simp only [List.length_append]; omega
  refine ⟨q1, g', R3.length + 2, is ++ (Ins.skip r1 (inner.length : Int) :: inner), some (.int 1), x7, some (.ref m6), ?_, ?_, by omega, ?_, ?_⟩
  rotate_left
  · rw [← G]
    have : is ++ (Ins.skip r1 (inner.length : Int) :: inner) = is ++ [Ins.skip r1 (inner.length : Int)] ++ inner := by simp
    rw [this]; exact N8
  · exact .skip B B6 (gd_skip ⟨a1, by omega⟩ ⟨by omega, by omega⟩)
  · simp [SZ]; omega
  · rw [← G]
    unfold b__law_block_0
    simp [hd', e0, f0, e5, f5, e6, e1, f1, ln, p1, d1, d2, -lenF_refO, -ixF_tupO, -push_ap, -dh_push, -List.append_assoc, -List.map_append, -List.map_cons, -List.map_nil]
theorem step_one {F : Fn} {a b c d e dp : Int} {n : Nat} (g0 : GS a b c d e) {R : List Cell} {m : Nat} {is : List Ins} {q q0 : Dst} {mn : Int} {x3 x5 x6 x7 x8 : Option D} (A : AT R m is) (lm : 2 ≤ m) (B : Blk a d e n is) (L : is.length ≤ 100000) (e0 : ifE (tbT (b2E ltF (vE 2) (cE (.int 3)))) (nA (callF 2 f__law_take) (consA (vE 0) (consA (cE (.int 9)) (nilA)))) (cE (.int 2)) [some (.ref 1), some (M a b c d e), some (.int dp), x3, some (.ref m), x5, x6, x7, x8] (dh q R) = .ok (.int mn) (dh q0 R)) (h0 : ¬ mn = 0) (h1 : ¬ mn = 1) : ∃ q' R', b__law_block_0 F [some (.ref 1), some (M a b c d e), some (.int dp), x3, some (.ref m), x5, x6, x7, x8] (dh q R) = .nxt [some (.ref 1), some (M a b c d e), some (.int dp), x3, some (.ref m), x5, some (.int mn), x7, x8] (dh q' R') ∧ ∃ i, R' = R.set (m - 2) (.lst ((is ++ [i]).map iD)) ∧ AT R' m (is ++ [i]) ∧ Blk a d e n (is ++ [i]) := by
  obtain ⟨i, q1, e1, G, n1, n2, n3⟩ := instr_gen g0 q0 R
  have il : ∀ q, isLst ((dh q R).at m) = true := fun q => is_lst A.at_
  refine ⟨q1, R.set (m - 2) (.lst ((is ++ [i]).map iD)), ?_, i, rfl, A.set _, .one B G ⟨n1, n2, n3⟩⟩
  have ap := A.ap (q := q1) (i := i) (by omega)
  unfold b__law_block_0
  simp only [seqS_ap, asgS_fr, e0]
  simp [h0, h1, e1, il, ap, -appF_refO, -push_ap, -dh_push, -List.append_assoc, -List.map_append, -List.map_cons, -List.map_nil]
def StepOk (F : Fn) (a b c d e : Int) (n : Nat) (dp : Int) : Prop := ∀ (R : List Cell) (m : Nat) (is : List Ins) (q : Dst) (x3 x5 x6 x7 x8 : Option D), AT R m is → Blk a d e n is → is.length ≤ 100000 → ∃ q' R' m' is' x6' x7' x8', b__law_block_0 F [some (.ref 1), some (M a b c d e), some (.int dp), x3, some (.ref m), x5, x6, x7, x8] (dh q R) = .nxt [some (.ref 1), some (M a b c d e), some (.int dp), x3, some (.ref m'), x5, x6', x7', x8'] (dh q' R') ∧ AT R' m' is' ∧ (∀ r g, R = r ++ g → r.length + 2 ≤ m → ∃ g', R' = r ++ g' ∧ r.length + 2 ≤ m') ∧ Blk a d e n is' ∧ is'.length ≤ is.length + SZ n
theorem set_app {r g : List Cell} {m : Nat} {c : Cell} (h : r.length + 2 ≤ m) : ∃ g', (r ++ g).set (m - 2) c = r ++ g' := ⟨_, List.set_append_right _ _ (by omega)⟩
theorem step_0 {F : Fn} {a b c d e : Int} (g0 : GS a b c d e) : StepOk F a b c d e 0 3 := by
  intro R m is q x3 x5 x6 x7 x8 A B L
  obtain ⟨q', R', z, i, e1, A1, B1⟩ := step_one (F := F) (dp := 3) (x3 := x3) (x5 := x5) (x6 := x6) (x7 := x7) (x8 := x8) (q := q) (q0 := q) (mn := 2) g0 A A.1 B L (by simp) (by omega) (by omega)
  refine ⟨q', R', m, _, _, _, _, z, A1, fun r g hr hm => ?_, B1, by simp [SZ]⟩
  obtain ⟨g', hg⟩ := set_app (r := r) (g := g) (m := m) (c := .lst ((is ++ [i]).map iD)) hm
  exact ⟨g', by rw [e1, hr, hg], hm⟩
theorem step_s {F : Fn} {a b c d e dp : Int} {n : Nat} (g0 : GS a b c d e) (rc : RecOk F a b c d e n (dp + 1)) (hd : dp < 3) (SL : SZ n ≤ 17) : StepOk F a b c d e (n + 1) dp := by
  intro R m is q x3 x5 x6 x7 x8 A B L
  obtain ⟨r0, q0, e0, f0, a0, b0⟩ := draw q 9 (by omega) (by omega)
  have mono : ∀ {m' : Nat} {g' : List Cell}, R.length + 2 ≤ m' → ∀ r g, R = r ++ g → r.length + 2 ≤ m → ∃ g'', R ++ g' = r ++ g'' ∧ r.length + 2 ≤ m' := fun {m' g'} h r g hr _ => by
    subst hr
    rw [List.length_append] at h
    exact ⟨g ++ g', by rw [List.append_assoc], by omega⟩
  by_cases c0 : r0 = 0
  · subst c0
    obtain ⟨q', g', m', is', y6, y7, y8, z, A1, lm, B1, l1⟩ := step_loop (x3 := x3) (x5 := x5) (x6 := x6) (x7 := x7) (x8 := x8) g0 rc hd A B L SL e0 f0
    exact ⟨q', _, m', is', y6, y7, y8, z, A1, mono lm, B1, l1⟩
  by_cases c1 : r0 = 1
  · subst c1
    obtain ⟨q', g', m', is', y6, y7, y8, z, A1, lm, B1, l1⟩ := step_skip (x3 := x3) (x5 := x5) (x6 := x6) (x7 := x7) (x8 := x8) rc hd A B L SL e0 f0
    exact ⟨q', _, m', is', y6, y7, y8, z, A1, mono lm, B1, l1⟩
  have hd' : decide (dp < 3) = true := decide_eq_true hd
  obtain ⟨q', R', z, i, e1, A1, B1⟩ := step_one (F := F) (dp := dp) (x3 := x3) (x5 := x5) (x6 := x6) (x7 := x7) (x8 := x8) (q := q) (q0 := q0) (mn := r0) g0 A A.1 B L (by simp [hd', e0, f0]) c0 c1
  have := SZ_pos (n + 1)
  refine ⟨q', R', m, _, _, _, _, z, A1, fun r g hr hm => ?_, B1, by simp; omega⟩
  obtain ⟨g', hg⟩ := set_app (r := r) (g := g) (m := m) (c := .lst ((is ++ [i]).map iD)) hm
  exact ⟨g', by rw [e1, hr, hg], hm⟩
theorem blk_l {F : Fn} {a b c d e dp : Int} {n : Nat} (so : StepOk F a b c d e n dp) {r : List Cell} {x3 : Option D} : ∀ (ks : List D) (q : Dst) (g : List Cell) (m : Nat) (is : List Ins) (x5 x6 x7 x8 : Option D), AT (r ++ g) m is → r.length + 2 ≤ m → Blk a d e n is → is.length + ks.length * SZ n ≤ 100000 → ∃ q' g' m' is' x5' x6' x7' x8', forV (.one 5) (b__law_block_0 F) (r.length + 3) ks [some (.ref 1), some (M a b c d e), some (.int dp), x3, some (.ref m), x5, x6, x7, x8] (dh q (r ++ g)) = .nxt [some (.ref 1), some (M a b c d e), some (.int dp), x3, some (.ref m'), x5', x6', x7', x8'] (dh q' (r ++ g')) ∧ AT (r ++ g') m' is' ∧ r.length + 2 ≤ m' ∧ Blk a d e n is' ∧ is'.length ≤ is.length + ks.length * SZ n
  | [], q, g, m, is, x5, x6, x7, x8, A, lm, B, _ => ⟨q, g, m, is, x5, x6, x7, x8, rfl, A, lm, B, by omega⟩
  | k :: ks, q, g, m, is, x5, x6, x7, x8, A, lm, B, L => by
    have ek : (k :: ks).length * SZ n = ks.length * SZ n + SZ n := by rw [List.length_cons, Nat.succ_mul]
    rw [ek] at L ⊢
    obtain ⟨q1, R1, m1, is1, y6, y7, y8, z, A1, G1, B1, l1⟩ := so (r ++ g) m is q x3 (some k) x6 x7 x8 A B (by omega)
    obtain ⟨g1, hg, lm1⟩ := G1 r g rfl lm
    subst hg
    obtain ⟨K, hK, hKe⟩ : ∃ K, K = max (r.length + 3) (max 0 (mrE [some (.ref 1), some (M a b c d e), some (.int dp), x3, some (.ref m1), some k, y6, y7, y8])) ∧ m1 + 1 ≤ K := ⟨_, rfl, by
      have := mrE_ge (e := [some (.ref 1), some (M a b c d e), some (.int dp), x3, some (.ref m1), some k, y6, y7, y8]) (i := 4) (d := .ref m1) rfl
      have e : (D.ref m1).mr = m1 + 1 := rfl
      omega⟩
    have gc : (dh q1 (r ++ g1)).gc (r.length + 3) [some (.ref 1), some (M a b c d e), some (.int dp), x3, some (.ref m1), some k, y6, y7, y8] = dh q1 (r ++ g1.take (K - 2 - r.length)) := by
      show (dh q1 (r ++ g1)).cut (max (r.length + 3) (max 0 (mrE _))) = _
      rw [← hK, show K = (K - 2) + 2 by omega, dh_cut, List.take_append, List.take_of_length_le (by omega)]
      rfl
    have A2 : AT (r ++ g1.take (K - 2 - r.length)) m1 is1 := by
      have := A1.take (k := K - 2) (by omega)
      rw [List.take_append, List.take_of_length_le (by omega)] at this
      exact this
    obtain ⟨q2, g2, m2, is2, w5, w6, w7, w8, z2, A3, lm2, B2, l2⟩ := blk_l so ks q1 _ m1 is1 (some k) y6 y7 y8 A2 lm1 B1 (by omega)
    refine ⟨q2, g2, m2, is2, w5, w6, w7, w8, ?_, A3, lm2, B2, by omega⟩
    rw [forV_cons, tgt_one, tgtO_some]
    show (b__law_block_0 F [some (.ref 1), some (M a b c d e), some (.int dp), x3, some (.ref m), some k, x6, x7, x8] (dh q (r ++ g))).nextV _ _ _ _ = _
    rw [z, nextV_nxt]
    rw [gc]
    exact z2
theorem block_of {F : Fn} {a b c d e dp : Int} {n : Nat} (so : StepOk F a b c d e n dp) {q : Dst} {r : List Cell} {many : Int} (h1 : 1 ≤ many) (h2 : many.toNat * SZ n ≤ 100000) (h3 : many ≤ 10) : ∃ q' g m is, runF (s__law_block F) 4 9 [.ref 1, M a b c d e, .int dp, .int many] (dh q r) = .ok (.ref m) (dh q' (r ++ g)) ∧ BO a d e n (many.toNat * SZ n) r q' g m is := by
  obtain ⟨q1, g1, m1, is1, y5, y6, y7, y8, z, A, lm, B, l⟩ := blk_l so (r := r) (x3 := some (.int many)) (rangeD 0 1 many.toNat) q [.lst []] (r.length + 2) [] none none none none (AT.new (R := r) (is := [])) (by omega) .nil (by rw [rangeD_len]; simp; omega)
  have ll : (rangeD 0 1 many.toNat).length = many.toNat := rangeD_len
  rw [ll] at l
  have lt := A.lt
  have er : r ++ ((r ++ g1).take (m1 - 1)).drop r.length = (r ++ g1).take (m1 - 1) := by
    rw [List.take_append, List.take_of_length_le (by omega), List.drop_left]
  refine ⟨q1, ((r ++ g1).take (m1 - 1)).drop r.length, m1, is1, ?_, ⟨?_, lm, B, by simpa using l⟩⟩
  · rw [er]
    unfold s__law_block
    have hp : (dh q r).push (.lst []) = dh q (r ++ [.lst []]) := rfl
    have i62 : in62 many = true := in62_lit (by omega) (by omega)
    have z' : forV (.one 5) (b__law_block_0 F) (r.length + 1 + 2) (rangeD 0 1 many.toNat) [some (.ref 1), some (M a b c d e), some (.int dp), some (.int many), some (.ref (r.length + 2)), none, none, none, none] (dh q (r ++ [.lst []])) = _ := z
    have k : (dh q1 (r ++ g1)).cut (max (r.length + 2) (m1 + 1)) = dh q1 ((r ++ g1).take (m1 - 1)) := by
      rw [Nat.max_eq_right (by omega), show m1 + 1 = (m1 - 1) + 2 by omega, dh_cut]
    simp [z', hp, i62, k, -push_ap, -dh_push]
  · rw [er]
    exact A.take (by omega)
theorem block_ap {a b c d e : Int} (g0 : GS a b c d e) (k : Nat) : ∀ n, n ≤ 3 → ∀ (many : Int) (q : Dst) (r : List Cell), 1 ≤ many → many ≤ 7 → ∃ q' g m is, f__law_block (n + 1 + k) [.ref 1, M a b c d e, .int (3 - (n : Int)), .int many] (dh q r) = .ok (.ref m) (dh q' (r ++ g)) ∧ BO a d e n (many.toNat * SZ n) r q' g m is := by
  have sz : ∀ n, n ≤ 3 → SZ n ≤ 53 := fun n hn => by
    rcases (show n = 0 ∨ n = 1 ∨ n = 2 ∨ n = 3 by omega) with rfl | rfl | rfl | rfl <;> simp [SZ]
  have so : ∀ n, n ≤ 3 → StepOk (f__law_block (n + k)) a b c d e n (3 - (n : Int)) := by
    intro n
    induction n with
    | zero => intro _; exact step_0 g0
    | succ n ih =>
      intro hn
      have s17 : SZ n ≤ 17 := by
        rcases (show n = 0 ∨ n = 1 ∨ n = 2 by omega) with rfl | rfl | rfl <;> simp [SZ]
      have ihn := ih (by omega)
      have e1 : (3 - ((n + 1 : Nat) : Int)) + 1 = 3 - (n : Int) := by omega
      refine step_s g0 (fun many q R m1 m2 => ?_) (by omega) s17
      rw [e1, show n + 1 + k = (n + k) + 1 by omega]
      exact block_of ihn m1 (Nat.le_trans (Nat.mul_le_mul_left _ s17) (by omega)) (by omega)
  intro n hn many q r m1 m2
  rw [show n + 1 + k = (n + k) + 1 by omega]
  exact block_of (so n hn) m1 (Nat.le_trans (Nat.mul_le_mul_left _ (sz n hn)) (by omega)) (by omega)
end Lk47

set_option exponentiation.threshold 5000
namespace Lk47
open PySem PySem.Spec PyProof.Rows L2 Dy
/-! ### runs without a blank or a feed -/
def RL (k : Nat) (a : List Nat) : Prop := ∀ x y z, a = x ++ (y ++ z) → (∀ c ∈ y, c ≠ 32 ∧ c ≠ 10) → y.length ≤ k
section
variable {k l s : Nat} {a b : List Nat}
theorem RL.sub (h : RL k a) {x z : List Nat} (e : a = x ++ (b ++ z)) : RL k b := fun u y w hb hy => h (x ++ u) y (w ++ z) (by rw [e, hb]; simp) hy
theorem RL.take (h : RL k a) (n : Nat) : RL k (a.take n) := h.sub (x := []) (z := a.drop n) (by simp)
theorem RL.drop (h : RL k a) (n : Nat) : RL k (a.drop n) := h.sub (x := a.take n) (z := []) (by simp)
theorem RL.len (h : a.length ≤ k) : RL k a := fun x y z e _ => by
  have := congrArg List.length e
  simp at this
  omega
theorem RL.mono (h : RL k a) (q : k ≤ l) : RL l a := fun x y z e hy => Nat.le_trans (h x y z e hy) q
theorem RL.app (ha : RL k a) (hb : RL l b) : RL (k + l) (a ++ b) := by
  intro x y z e hy
  rcases List.append_eq_append_iff.mp e with ⟨a', e1, e2⟩ | ⟨c', e1, e2⟩
  · have := hb a' y z e2 hy; omega
  · rcases List.append_eq_append_iff.mp e2 with ⟨a'', e3, e4⟩ | ⟨c'', e3, e4⟩
    · have := ha x y a'' (by rw [e1, e3]) hy; omega
    · have h1 := ha x c' [] (by rw [e1]; simp) (fun c hc => hy c (by rw [e3]; simp [hc]))
      have h2 := hb [] c'' z (by rw [e4]; rfl) (fun c hc => hy c (by rw [e3]; simp [hc]))
      rw [e3, List.length_append]; omega
theorem RL.sep (ha : RL k a) (hb : RL k b) (hs : s = 32 ∨ s = 10) : RL k (a ++ s :: b) := by
  intro x y z e hy
  have ns : s ∉ y := fun q => by have := hy s q; omega
  have nil : RL k [] := RL.len (Nat.zero_le _)
  rcases List.append_eq_append_iff.mp e with ⟨a', e1, e2⟩ | ⟨c', e1, e2⟩
  · cases a' with
    | nil =>
      cases y with
      | nil => exact Nat.zero_le _
      | cons c y =>
        have : s = c := by have := congrArg List.head? e2; simpa using this
        exact absurd (by rw [this]; simp) ns
    | cons c a' =>
      have : b = a' ++ (y ++ z) := by simpa using congrArg List.tail e2
      exact hb a' y z this hy
  · rcases List.append_eq_append_iff.mp e2 with ⟨a'', e3, e4⟩ | ⟨c'', e3, e4⟩
    · exact ha x y a'' (by rw [e1, e3]) hy
    · cases c'' with
      | nil =>
        rw [List.append_nil] at e3
        exact ha x y [] (by rw [e1, e3]; simp) hy
      | cons c c'' =>
        have : s = c := by have := congrArg List.head? e4; simpa using this
        exact absurd (by rw [e3, this]; simp) ns
theorem RL_J (hs : s = 32 ∨ s = 10) : ∀ ps : List (List Nat), (∀ p ∈ ps, RL k p) → RL k (J s ps)
  | [], _ => RL.len (Nat.zero_le _)
  | [p], h => h p (by simp)
  | p :: q :: r, h => by
    rw [J_cons (by simp)]
    exact (h p (by simp)).sep (RL_J hs (q :: r) fun x hx => h x (List.mem_cons_of_mem _ hx)) hs
theorem mem_J : ∀ {ps : List (List Nat)} {p : List Nat}, p ∈ ps → ∃ x z, J s ps = x ++ (p ++ z)
  | [p], q, h => ⟨[], [], by rw [List.mem_singleton.mp h]; simp [TL.joinL]⟩
  | p :: p2 :: r, q, h => by
    rw [J_cons (by simp)]
    rcases List.mem_cons.mp h with rfl | h
    · exact ⟨[], _, rfl⟩
    · obtain ⟨x, z, e⟩ := mem_J (ps := p2 :: r) h
      rw [e]
      exact ⟨p ++ s :: x, z, by simp⟩
theorem sum_le {m : Nat} : ∀ {ws : List (List Nat)}, (∀ w ∈ ws, w.length ≤ m) → (ws.map (·.length)).sum ≤ ws.length * m
  | [], _ => by simp
  | w :: r, h => by
    have := sum_le fun x hx => h x (List.mem_cons_of_mem w hx)
    have h1 := h w List.mem_cons_self
    rw [List.map_cons, List.sum_cons, List.length_cons, Nat.succ_mul]
    omega
theorem J_le {m : Nat} {ps : List (List Nat)} (h : ∀ p ∈ ps, p.length ≤ m) : (J s ps).length ≤ ps.length * (m + 1) := by
  by_cases c : ps = []
  · subst c; simp [TL.joinL]
  · have := J_len (s := s) c
    have := sum_le h
    rw [Nat.mul_succ]
    omega
theorem cnt_J : ∀ {ps : List (List Nat)}, (∀ p ∈ ps, 10 ∉ p) → (J 10 ps).count 10 ≤ ps.length
  | [], _ => by simp [TL.joinL]
  | [p], h => by
    show p.count 10 ≤ _
    rw [List.count_eq_zero_of_not_mem (h p (by simp))]; simp
  | p :: q :: r, h => by
    rw [J_cons (by simp), List.count_append, List.count_cons_self, List.count_eq_zero_of_not_mem (h p (by simp))]
    have := cnt_J (ps := q :: r) fun x hx => h x (List.mem_cons_of_mem _ hx)
    simp at this ⊢
    omega
end
/-! ### what is drawn is small -/
theorem numI_sm {n : Int} (h : sml n) : (numI n).length ≤ 6 := by
  obtain ⟨h1, h2⟩ := h
  have := numL_le 4 n.natAbs (show n.natAbs < 10 ^ 5 by omega)
  unfold numI
  split
  · rw [List.length_cons]; omega
  · omega
theorem pw_len {k : Str} (t : k ∈ PW) : k.cps.toList.length ≤ 7 := by
  refine pw_cases (P := fun k => k.cps.toList.length ≤ 7) ?_ ?_ ?_ ?_ ?_ ?_ ?_ ?_ ?_ ?_ ?_ t
  all_goals decide +kernel
theorem nums_sm {ns : List Int} (h : ∀ n ∈ ns, sml n) : ∀ w ∈ ns.map numI, w.length ≤ 7 := fun w hw => by
  obtain ⟨n, hn, rfl⟩ := List.mem_map.mp hw
  have := numI_sm (h n hn); omega
theorem wI_sm {a d e : Int} {i : Ins} (g : gd a d e i) : (∀ w ∈ wI i, w.length ≤ 7) ∧ (wI i).length ≤ 12 := by
  obtain ⟨t, _, _, sm, ln⟩ := g
  have op : ∀ (z : Str) (ns : List Int), z.cps.toList.length ≤ 7 → (∀ n ∈ ns, sml n) → ns.length ≤ 8 → (∀ w ∈ z.cps.toList :: ns.map numI, w.length ≤ 7) ∧ (z.cps.toList :: ns.map numI).length ≤ 12 := fun z ns fz hn hl => by
    refine ⟨fun w hw => ?_, by simp; omega⟩
    rcases List.mem_cons.mp hw with rfl | hw
    · exact fz
    · exact nums_sm hn w hw
  cases i with
  | doo k d ss fs =>
    have l2 : 1 + (ss.length + fs.length) ≤ 8 := by simp [inI] at ln; omega
    have sD : sml d := sm d (by simp [inI])
    have sS : ∀ n ∈ ss, sml n := fun n hn => sm n (by simp [inI, hn])
    have sF : ∀ n ∈ fs, sml n := fun n hn => sm n (by simp [inI, hn])
    rw [wI_doo]
    refine ⟨fun w hw => ?_, by simp; omega⟩
    rcases List.mem_cons.mp hw with rfl | hw
    · decide +kernel
    rcases List.mem_cons.mp hw with rfl | hw
    · exact pw_len t.1
    rcases List.mem_cons.mp hw with rfl | hw
    · have := numI_sm sD; omega
    rcases List.mem_append.mp hw with hw | hw
    · rcases List.mem_cons.mp hw with rfl | hw
      · have := numI_sm (n := (ss.length : Int)) ⟨by omega, by omega⟩; omega
      · exact nums_sm sS w hw
    · rcases List.mem_cons.mp hw with rfl | hw
      · have := numI_sm (n := (fs.length : Int)) ⟨by omega, by omega⟩; omega
      · exact nums_sm sF w hw
  | vec k d a b c =>
    rw [wI_vec]
    refine ⟨fun w hw => ?_, by simp⟩
    rcases List.mem_cons.mp hw with rfl | hw
    · decide +kernel
    rcases List.mem_cons.mp hw with rfl | hw
    · exact pw_len t
    · exact nums_sm sm w hw
  | set a b => rw [wI_mk (z := "set") (ns := [a, b]) rfl]; exact op _ _ (by decide +kernel) sm ln
  | load a b c => rw [wI_mk (z := "load") (ns := [a, b, c]) rfl]; exact op _ _ (by decide +kernel) sm ln
  | store a b c => rw [wI_mk (z := "store") (ns := [a, b, c]) rfl]; exact op _ _ (by decide +kernel) sm ln
  | mac a b c d e f => rw [wI_mk (z := "mac") (ns := [a, b, c, d, e, f]) rfl]; exact op _ _ (by decide +kernel) sm ln
  | loop a b c d => rw [wI_mk (z := "loop") (ns := [a, b, c, d]) rfl]; exact op _ _ (by decide +kernel) sm ln
  | fin => rw [wI_mk (z := "end") (ns := []) rfl]; exact op _ _ (by decide +kernel) sm ln
  | skip a b => rw [wI_mk (z := "skip") (ns := [a, b]) rfl]; exact op _ _ (by decide +kernel) sm ln
  | inn a b c d e f => rw [wI_mk (z := "in") (ns := [a, b, c, d, e, f]) rfl]; exact op _ _ (by decide +kernel) sm ln
  | out a b c d e f => rw [wI_mk (z := "out") (ns := [a, b, c, d, e, f]) rfl]; exact op _ _ (by decide +kernel) sm ln
  | wait a => rw [wI_mk (z := "wait") (ns := [a]) rfl]; exact op _ _ (by decide +kernel) sm ln
theorem sml_nS {n : Int} (h : sml n) : nS n := by
  obtain ⟨h1, h2⟩ := h
  exact nS_of (by omega)
theorem sml_nB {n : Int} (h : sml n) : nB n := by
  obtain ⟨h1, h2⟩ := h
  show n.natAbs.log2 < 1920
  exact log2_small (show n.natAbs < 2 ^ 1920 from Nat.lt_of_le_of_lt (show n.natAbs ≤ 2 ^ 17 by omega) (Nat.pow_lt_pow_right (by decide) (by decide))) (by decide)
theorem gd_NS {a d e : Int} {i : Ins} (g : gd a d e i) : NS i := by
  obtain ⟨t, _, _, sm, ln⟩ := g
  have s : ∀ n ∈ inI i, nS n := fun n hn => sml_nS (sm n hn)
  cases i with
  | doo k d ss fs => exact ⟨s _ (by simp [inI]), fun n hn => s n (by simp [inI, hn]), fun n hn => s n (by simp [inI, hn]), t.2.1, t.2.2⟩
  | fin => trivial
  | set a b => exact ⟨s _ (by simp [inI]), s _ (by simp [inI])⟩
  | load a b c => exact ⟨s _ (by simp [inI]), s _ (by simp [inI]), s _ (by simp [inI])⟩
  | store a b c => exact ⟨s _ (by simp [inI]), s _ (by simp [inI]), s _ (by simp [inI])⟩
  | mac a b c d e f => exact ⟨s _ (by simp [inI]), s _ (by simp [inI]), s _ (by simp [inI]), s _ (by simp [inI]), s _ (by simp [inI]), s _ (by simp [inI])⟩
  | loop a b c d => exact ⟨s _ (by simp [inI]), s _ (by simp [inI]), s _ (by simp [inI]), s _ (by simp [inI])⟩
  | skip a b => exact ⟨s _ (by simp [inI]), s _ (by simp [inI])⟩
  | inn a b c d e f => exact ⟨s _ (by simp [inI]), s _ (by simp [inI]), s _ (by simp [inI]), s _ (by simp [inI]), s _ (by simp [inI]), s _ (by simp [inI])⟩
  | out a b c d e f => exact ⟨s _ (by simp [inI]), s _ (by simp [inI]), s _ (by simp [inI]), s _ (by simp [inI]), s _ (by simp [inI]), s _ (by simp [inI])⟩
  | wait a => exact s _ (by simp [inI])
  | vec k d a b c => exact ⟨s _ (by simp [inI]), s _ (by simp [inI]), s _ (by simp [inI]), s _ (by simp [inI])⟩
theorem okF_it {a d e : Int} {i : Ins} (g : gd a d e i) : ∀ y ∈ itD i, okF y := by
  obtain ⟨t, _, _, sm, ln⟩ := g
  have op : ∀ (z : Str) (ns : List Int), (∀ n ∈ ns, sml n) → ∀ y ∈ D.str z :: ns.map .int, okF y := fun z ns h y hy => by
    rcases List.mem_cons.mp hy with rfl | hy
    · trivial
    · exact okF_ints (fun n hn => sml_nB (h n hn)) y hy
  cases i with
  | doo k d ss fs =>
    have l2 : 1 + (ss.length + fs.length) ≤ 8 := by simp [inI] at ln; omega
    intro y hy
    have hy : y ∈ [D.str "do", .str k, .int d, .tup (ss.map .int), .tup (fs.map .int)] := hy
    simp only [List.mem_cons, List.not_mem_nil, or_false] at hy
    rcases hy with rfl | rfl | rfl | rfl | rfl
    · trivial
    · trivial
    · exact sml_nB (sm d (by simp [inI]))
    · exact ⟨ss, rfl, fun n hn => sml_nB (sm n (by simp [inI, hn])), by omega⟩
    · exact ⟨fs, rfl, fun n hn => sml_nB (sm n (by simp [inI, hn])), by omega⟩
  | vec k d a b c =>
    intro y hy
    have hy : y ∈ D.str "vector" :: D.str k :: [d, a, b, c].map .int := hy
    rcases List.mem_cons.mp hy with rfl | hy
    · trivial
    · exact op k _ sm y hy
  | set a b => exact op "set" [a, b] sm
  | load a b c => exact op "load" [a, b, c] sm
  | store a b c => exact op "store" [a, b, c] sm
  | mac a b c d e f => exact op "mac" [a, b, c, d, e, f] sm
  | loop a b c d => exact op "loop" [a, b, c, d] sm
  | fin => exact op "end" [] sm
  | skip a b => exact op "skip" [a, b] sm
  | inn a b c d e f => exact op "in" [a, b, c, d, e, f] sm
  | out a b c d e f => exact op "out" [a, b, c, d, e, f] sm
  | wait a => exact op "wait" [a] sm
theorem line_le {a d e : Int} {i : Ins} (g : gd a d e i) : (J 32 (wI i)).length ≤ 96 := by
  obtain ⟨h1, h2⟩ := wI_sm g
  have := J_le (s := 32) h1
  have := Nat.mul_le_mul_right (7 + 1) h2
  omega
theorem gd_okI {a d e : Int} {i : Ins} (g : gd a d e i) : okI i := ⟨okF_it g, by have := (wI_sm g).2; omega, by have := line_le g; omega⟩
theorem due_cons {i : Ins} {is : List Ins} : due (i :: is) = J 32 (wI i) ++ 10 :: due is := by
  show (J 32 (wI i) ++ [10]) ++ due is = _
  simp
theorem due_le {a d e : Int} : ∀ {is : List Ins}, (∀ i ∈ is, gd a d e i) → (due is).length ≤ is.length * 97
  | [], _ => Nat.le_refl _
  | i :: is, h => by
    have h1 := line_le (h i List.mem_cons_self)
    have h2 := due_le fun j hj => h j (List.mem_cons_of_mem i hj)
    rw [due_cons, List.length_append, List.length_cons, List.length_cons, Nat.succ_mul]
    omega
theorem due_RL {a d e : Int} : ∀ {is : List Ins}, (∀ i ∈ is, gd a d e i) → RL 7 (due is)
  | [], _ => RL.len (Nat.zero_le _)
  | i :: is, h => by
    rw [due_cons]
    exact (RL_J (.inl rfl) _ fun w hw => RL.len ((wI_sm (h i List.mem_cons_self)).1 w hw)).sep (due_RL fun j hj => h j (List.mem_cons_of_mem i hj)) (.inr rfl)
theorem due_cnt : ∀ {is : List Ins}, is.length ≤ (due is).count 10
  | [] => Nat.le_refl _
  | i :: is => by
    have := due_cnt (is := is)
    rw [due_cons, List.count_append, List.count_cons_self, List.length_cons]
    omega
theorem due_sub {i : Ins} : ∀ {is : List Ins}, i ∈ is → ∃ x z, due is = x ++ (J 32 (wI i) ++ z)
  | j :: is, h => by
    rw [due_cons]
    rcases List.mem_cons.mp h with rfl | h
    · exact ⟨[], _, rfl⟩
    · obtain ⟨x, z, e⟩ := due_sub h
      rw [e]
      exact ⟨J 32 (wI j) ++ 10 :: x, z, by simp⟩
theorem numL_ge : ∀ (k n : Nat), 10 ^ k ≤ n → k + 1 ≤ (TL.numL n).length := by
  intro k
  induction k with
  | zero =>
    intro n _
    have := TL.numL_ne n
    have := List.length_pos_iff.mpr this
    omega
  | succ k ih =>
    intro n h
    have : 1 ≤ 10 ^ k := Nat.pos_of_ne_zero (by simp)
    rw [Nat.pow_succ] at h
    rw [TL.numL_step (by omega), List.length_append]
    have := ih (n / 10) (by omega)
    simp
    omega
theorem due_SB {is : List Ins} (h : RL 15 (due is)) : ∀ i ∈ is, SB i := by
  intro i hi
  cases i with
  | skip v n =>
    show n < 1000000000000000
    obtain ⟨x, z, e⟩ := due_sub hi
    have h1 := h.sub e
    rw [wI_mk (z := "skip") (ns := [v, n]) rfl] at h1
    obtain ⟨x2, z2, e2⟩ := mem_J (s := 32) (ps := ("skip" : Str).cps.toList :: [v, n].map numI) (p := numI n) (by simp)
    have h2 := h1.sub e2
    have h3 := h2 [] (numI n) [] (by simp) fun c hc => by
      have f := numI_free n
      exact ⟨fun q => f.1 (q ▸ hc), fun q => f.2 (q ▸ hc)⟩
    by_cases c : n < 1000000000000000
    · exact c
    · unfold numI at h3
      rw [if_neg (by omega)] at h3
      have := numL_ge 15 n.natAbs (by omega)
      omega
  | _ => trivial
end Lk47

set_option exponentiation.threshold 5000
namespace Lk47
open PySem PySem.Spec PyProof.Rows L2 Dy
theorem cut_to {ws : List (List Nat)} {a : Nat} : Dy.cutD (sD ws) none (some (a : Int)) = sD (ws.take a) := by
  unfold Dy.cutD
  rw [HT.sIx_nat, HT.sIx_none, sD_len, sD_drop, List.drop_zero, sD_take]
  by_cases c : a ≤ ws.length
  · rw [Nat.min_eq_left c]; rfl
  · rw [Nat.min_eq_right (by omega), List.take_of_length_le (by omega), List.take_of_length_le (by omega)]
theorem pu (X : PH) (c : Cell) : ∃ X1, X.push c = X1 ∧ Grow X X1 ∧ X1.at X.cs.length = some c ∧ (∀ n y, X.at n = some y → X1.at n = some y) := ⟨_, rfl, Grow.refl.push c, push_at, fun n y h => by rw [push_lt (at_lt h)]; exact h⟩
def E4 : EM := mtE "str" joinF (cE (.str "\n")) (consA (b2E addF (slE (vE 3) (noO) (someO (vE 4))) (slE (vE 3) (someO (b2E addF (vE 4) (cE (.int 1)))) (noO))) (nilA))
def E5 : EM := mtE "str" joinF (cE (.str "\n")) (consA (b2E addF (slE (vE 3) (noO) (someO (b2E addF (vE 4) (cE (.int 1))))) (slE (vE 3) (someO (vE 4)) (noO))) (nilA))
def E6 : EM := mtE "str" joinF (cE (.str "\n")) (consA (b2E addF (b2E addF (slE (vE 3) (noO) (someO (vE 4))) (nA lstF (consA (mtE "str" joinF (cE (.str " ")) (consA (b2E addF (slE (vE 7) (noO) (someO (b2E addF (vE 8) (cE (.int 1))))) (slE (vE 7) (someO (vE 8)) (noO))) (nilA))) (nilA)))) (slE (vE 3) (someO (b2E addF (vE 4) (cE (.int 1)))) (noO))) (nilA))
section
variable {e : Dy.Env} {X : PH} {m n : Nat} {ls : List (List Nat)}
theorem sl_to (hm : X.at m = some (.lst (sD ls))) : slF (.ref m) none (some (n : Int)) X = .ok (.ref X.cs.length) (X.push (.lst (sD (ls.take n)))) := by rw [sl_ref hm, cut_to]
theorem sl_to1 (hm : X.at m = some (.lst (sD ls))) : slF (.ref m) none (some ((n : Int) + 1)) X = .ok (.ref X.cs.length) (X.push (.lst (sD (ls.take (n + 1))))) := sl_to (n := n + 1) hm
theorem sl_fr (hm : X.at m = some (.lst (sD ls))) : slF (.ref m) (some (n : Int)) none X = .ok (.ref X.cs.length) (X.push (.lst (sD (ls.drop n)))) := by rw [sl_ref hm, cut_from]
theorem sl_fr1 (hm : X.at m = some (.lst (sD ls))) : slF (.ref m) (some ((n : Int) + 1)) none X = .ok (.ref X.cs.length) (X.push (.lst (sD (ls.drop (n + 1))))) := sl_fr (n := n + 1) hm
theorem sadd {k : Nat} {xs ys : List (List Nat)} (hm : X.at m = some (.lst (sD xs))) (hn : X.at k = some (.lst (sD ys))) (l : xs.length + ys.length ≤ 100000) : addF (.ref m) (.ref k) X = .ok (.ref X.cs.length) (X.push (.lst (sD (xs ++ ys)))) := by
  rw [ladd_ap hm hn (by rw [sD_len, sD_len]; omega), sD_app]
theorem e4_ap (h3 : e[3]? = some (some (.ref m))) (h4 : e[4]? = some (some (.int (n : Int)))) (hm : X.at m = some (.lst (sD ls))) (l : ls.length ≤ 10000) (lj : (J 10 (ls.take n ++ ls.drop (n + 1))).length ≤ 1000000) : ∃ Y, E4 e X = .ok (.str (SS (J 10 (ls.take n ++ ls.drop (n + 1))))) Y ∧ Grow X Y := by
  have s1 := sl_to (n := n) hm
  obtain ⟨X1, p1, G1, a1, k1⟩ := pu X (.lst (sD (ls.take n)))
  rw [p1] at s1
  have s2 := sl_fr1 (n := n) (k1 _ _ hm)
  obtain ⟨X2, p2, G2, a2, k2⟩ := pu X1 (.lst (sD (ls.drop (n + 1))))
  rw [p2] at s2
  have s3 := sadd (k2 _ _ a1) a2 (by simp; omega)
  obtain ⟨X3, p3, G3, a3, k3⟩ := pu X2 (.lst (sD (ls.take n ++ ls.drop (n + 1))))
  rw [p3] at s3
  have j := join_ap (x := "\n") s_feed a3 lj
  refine ⟨X3, ?_, G1.trans (G2.trans G3)⟩
  unfold E4
  simp [h3, h4, s1, s2, s3, j]
theorem e5_ap (h3 : e[3]? = some (some (.ref m))) (h4 : e[4]? = some (some (.int (n : Int)))) (hm : X.at m = some (.lst (sD ls))) (l : ls.length ≤ 10000) (lj : (J 10 (ls.take (n + 1) ++ ls.drop n)).length ≤ 1000000) : ∃ Y, E5 e X = .ok (.str (SS (J 10 (ls.take (n + 1) ++ ls.drop n)))) Y ∧ Grow X Y := by
  have s1 := sl_to1 (n := n) hm
  obtain ⟨X1, p1, G1, a1, k1⟩ := pu X (.lst (sD (ls.take (n + 1))))
  rw [p1] at s1
  have s2 := sl_fr (n := n) (k1 _ _ hm)
  obtain ⟨X2, p2, G2, a2, k2⟩ := pu X1 (.lst (sD (ls.drop n)))
  rw [p2] at s2
  have s3 := sadd (k2 _ _ a1) a2 (by simp; omega)
  obtain ⟨X3, p3, G3, a3, k3⟩ := pu X2 (.lst (sD (ls.take (n + 1) ++ ls.drop n)))
  rw [p3] at s3
  have j := join_ap (x := "\n") s_feed a3 lj
  refine ⟨X3, ?_, G1.trans (G2.trans G3)⟩
  unfold E5
  simp [h3, h4, s1, s2, s3, j]
theorem e6_ap {m2 n2 : Nat} {ws : List (List Nat)} (h3 : e[3]? = some (some (.ref m))) (h4 : e[4]? = some (some (.int (n : Int)))) (h7 : e[7]? = some (some (.ref m2))) (h8 : e[8]? = some (some (.int (n2 : Int)))) (hm : X.at m = some (.lst (sD ls))) (hw : X.at m2 = some (.lst (sD ws))) (l : ls.length ≤ 10000) (l2 : ws.length ≤ 10000) (lw : (J 32 (ws.take (n2 + 1) ++ ws.drop n2)).length ≤ 1000000) (lj : (J 10 (ls.take n ++ [J 32 (ws.take (n2 + 1) ++ ws.drop n2)] ++ ls.drop (n + 1))).length ≤ 1000000) : ∃ Y, E6 e X = .ok (.str (SS (J 10 (ls.take n ++ [J 32 (ws.take (n2 + 1) ++ ws.drop n2)] ++ ls.drop (n + 1))))) Y ∧ Grow X Y := by
  have s1 := sl_to (n := n) hm
  obtain ⟨X1, p1, G1, a1, k1⟩ := pu X (.lst (sD (ls.take n)))
  rw [p1] at s1
  have s2 := sl_to1 (n := n2) (k1 _ _ hw)
  obtain ⟨X2, p2, G2, a2, k2⟩ := pu X1 (.lst (sD (ws.take (n2 + 1))))
  rw [p2] at s2
  have s3 := sl_fr (n := n2) (k2 _ _ (k1 _ _ hw))
  obtain ⟨X3, p3, G3, a3, k3⟩ := pu X2 (.lst (sD (ws.drop n2)))
  rw [p3] at s3
  have s4 := sadd (k3 _ _ a2) a3 (by simp; omega)
  obtain ⟨X4, p4, G4, a4, k4⟩ := pu X3 (.lst (sD (ws.take (n2 + 1) ++ ws.drop n2)))
  rw [p4] at s4
  have j1 := join_ap (x := " ") s_blank a4 lw
  obtain ⟨X5, p5, G5, a5, k5⟩ := pu X4 (.lst (sD [J 32 (ws.take (n2 + 1) ++ ws.drop n2)]))
  have p5 : X4.push (.lst [.str (SS (J 32 (ws.take (n2 + 1) ++ ws.drop n2)))]) = X5 := p5
  have s6 := sadd (k5 _ _ (k4 _ _ (k3 _ _ (k2 _ _ a1)))) a5 (by simp; omega)
  obtain ⟨X6, p6, G6, a6, k6⟩ := pu X5 (.lst (sD (ls.take n ++ [J 32 (ws.take (n2 + 1) ++ ws.drop n2)])))
  rw [p6] at s6
  have s7 := sl_fr1 (n := n) (k6 _ _ (k5 _ _ (k4 _ _ (k3 _ _ (k2 _ _ (k1 _ _ hm))))))
  obtain ⟨X7, p7, G7, a7, k7⟩ := pu X6 (.lst (sD (ls.drop (n + 1))))
  rw [p7] at s7
  have s8 := sadd (k7 _ _ a6) a7 (by simp; omega)
  obtain ⟨X8, p8, G8, a8, k8⟩ := pu X7 (.lst (sD (ls.take n ++ [J 32 (ws.take (n2 + 1) ++ ws.drop n2)] ++ ls.drop (n + 1))))
  rw [p8] at s8
  have j := join_ap (x := "\n") s_feed a8 lj
  refine ⟨X8, ?_, G1.trans (G2.trans (G3.trans (G4.trans (G5.trans (G6.trans (G7.trans G8))))))⟩
  unfold E6
  simp [h3, h4, h7, h8, s1, s2, s3, s4, j1, p5, s6, s7, s8, j, -push_ap, -List.append_assoc]
end
theorem s__law_bent_al : s__law_bent = seqS (asgS (nA (callF 2 f__law_take) (consA (vE 0) (consA (cE (.int 7)) (nilA)))) (.one 2)) (seqS (asgS (mtE "str" splitF (vE 1) (consA (cE (.str "\n")) (nilA))) (.one 3)) (seqS (asgS (nA (callF 2 f__law_take) (consA (vE 0) (consA (nA (Dy.f1 lenF) (consA (vE 3) (nilA))) (nilA)))) (.one 4)) (seqS (asgS (nA (callF 2 f__law_take) (consA (vE 0) (consA (b2E addF (nA (Dy.f1 lenF) (consA (vE 1) (nilA))) (cE (.int 1))) (nilA)))) (.one 5)) (seqS (asgS (b2E ixF (cE (.str "0123456789- \nadl")) (nA (callF 2 f__law_take) (consA (vE 0) (consA (cE (.int 16)) (nilA))))) (.one 6)) (seqS (ifS (tbT (b2E ltF (vE 2) (cE (.int 2)))) (seqS (retS (b2E addF (b2E addF (slE (vE 1) (noO) (someO (vE 5))) (vE 6)) (slE (vE 1) (someO (b2E addF (vE 5) (cE (.int 1)))) (noO)))) (nextS)) (nextS)) (seqS (ifS (tbT (b2E eqF (vE 2) (cE (.int 2)))) (seqS (retS (b2E addF (b2E addF (slE (vE 1) (noO) (someO (vE 5))) (vE 6)) (slE (vE 1) (someO (vE 5)) (noO)))) (nextS)) (nextS)) (seqS (ifS (tbT (b2E eqF (vE 2) (cE (.int 3)))) (seqS (retS (b2E addF (slE (vE 1) (noO) (someO (vE 5))) (slE (vE 1) (someO (b2E addF (vE 5) (cE (.int 1)))) (noO)))) (nextS)) (nextS)) (seqS (ifS (tbT (b2E eqF (vE 2) (cE (.int 4)))) (seqS (retS E4) (nextS)) (nextS)) (seqS (ifS (tbT (b2E eqF (vE 2) (cE (.int 5)))) (seqS (retS E5) (nextS)) (nextS)) (seqS (asgS (mtE "str" splitF (b2E ixF (vE 3) (vE 4)) (consA (cE (.str " ")) (nilA))) (.one 7)) (seqS (asgS (nA (callF 2 f__law_take) (consA (vE 0) (consA (nA (Dy.f1 lenF) (consA (vE 7) (nilA))) (nilA)))) (.one 8)) (seqS (retS E6) (nextS))))))))))))) := rfl
theorem s_signs : ("0123456789- \nadl" : Str) = SS [48, 49, 50, 51, 52, 53, 54, 55, 56, 57, 45, 32, 10, 97, 100, 108] := by decide +kernel
theorem back_dh {q : Dst} {r g : List Cell} {Y : PH} (G : Grow (dh q (r ++ g)) Y) : Y.cut (r.length + 2) = dh q r := by
  rw [G.cut (by rw [dh_len, List.length_append]; omega), dh_cut, List.take_left' rfl]
theorem back_dh' {q : Dst} {r g : List Cell} {Y : PH} (G : Grow (dh q (r ++ g)) Y) : Y.cut (max (r.length + 2) Y.lim) = dh q r := by
  rw [show Y.lim = 0 from G.lim, Nat.max_eq_left (Nat.zero_le _), back_dh G]
theorem tk {q q' : Dst} {m v : Int} {R : List Cell} (p : 0 < m) (s : sm m) (e : takeV q m = v) (f : takeQ q m = q') : f__law_take [.ref 1, .int m] (dh q R) = .ok (.int v) (dh q' R) := by
  have := take_ap (q := q) (m := m) (rest := R) p s
  rw [e, f] at this
  exact this
theorem free_parts {is : List Ins} (t : ∀ i ∈ is, Ty i) : ∀ l ∈ parts 10 (due is), 10 ∉ l := fun l hl => by
  rw [due_parts t] at hl
  rcases List.mem_append.mp hl with hl | hl
  · obtain ⟨i, hi, rfl⟩ := List.mem_map.mp hl
    exact line_free (t i hi)
  · rw [List.mem_singleton.mp hl]; simp
theorem count_take {c n : Nat} {a : List Nat} : (a.take n).count c + (a.drop n).count c = a.count c := by rw [← List.count_append, List.take_append_drop]
/-- what a bent text may be -/
def Bt (b : List Nat) : Prop := b.length ≤ 49000 ∧ RL 15 b ∧ b.count 10 ≤ 3000
theorem bent_ap {a d e : Int} {is : List Ins} (hg : ∀ i ∈ is, gd a d e i) (l : is.length ≤ 371) (q : Dst) (r : List Cell) : ∃ b q', f__law_bent [.ref 1, .str (SS (due is))] (dh q r) = .ok (.str (SS b)) (dh q' r) ∧ Bt b := by
  have ty : ∀ i ∈ is, Ty i := fun i hi => (hg i hi).1
  have dl := due_le hg
  have rl := due_RL hg
  have dp := due_parts ty
  have fr := free_parts ty
  have cn : (due is).count 10 ≤ 371 := by
    have h1 := cnt_J (ps := parts 10 (due is)) fr
    have h2 := parts_count (s := 10) (a := due is)
    rw [dp] at h2
    simp at h2
    omega
  have lls : (parts 10 (due is)).length = is.length + 1 := by rw [dp]; simp
  have ll : ∀ w ∈ parts 10 (due is), w.length ≤ 96 := fun w hw => by
    rw [dp] at hw
    rcases List.mem_append.mp hw with hw | hw
    · obtain ⟨i, hi, rfl⟩ := List.mem_map.mp hw
      exact line_le (hg i hi)
    · rw [List.mem_singleton.mp hw]; simp
  have lw : ∀ w ∈ parts 10 (due is), (∀ x ∈ parts 32 w, x.length ≤ 7 ∧ 10 ∉ x) ∧ (parts 32 w).length ≤ 12 := fun w hw => by
    rw [dp] at hw
    rcases List.mem_append.mp hw with hw | hw
    · obtain ⟨i, hi, rfl⟩ := List.mem_map.mp hw
      rw [line_parts (ty i hi)]
      exact ⟨fun x hx => ⟨(wI_sm (hg i hi)).1 x hx, (wI_free (ty i hi) x hx).2⟩, (wI_sm (hg i hi)).2⟩
    · rw [List.mem_singleton.mp hw]
      have : parts 32 [] = [[]] := rfl
      rw [this]
      exact ⟨fun x hx => by rw [List.mem_singleton.mp hx]; simp, by simp⟩
  have lr : ∀ w ∈ parts 10 (due is), RL 7 w := fun w hw => by
    obtain ⟨x, z, e⟩ := mem_J (s := 10) hw
    rw [parts_J] at e
    exact rl.sub e
  generalize hA : due is = A at *
  obtain ⟨mn, q0, e0, f0, a0, b0⟩ := draw q 7 (by omega) (by omega)
  have sp := fun q => split_ap (x := "\n") (a := A) (h := dh q r) s_feed (by decide) (by omega)
  generalize hL : parts 10 A = ls at *
  have spp : ∀ q, (dh q r).push (.lst (sD ls)) = dh q (r ++ [.lst (sD ls)]) := fun q => rfl
  have at1 : ∀ q, (dh q (r ++ [.lst (sD ls)])).at (r.length + 2) = some (.lst (sD ls)) := fun q => push_at (h := dh q r)
  have ln : ∀ q, lenF (.ref (r.length + 2)) (dh q (r ++ [.lst (sD ls)])) = .ok (.int (ls.length : Int)) (dh q (r ++ [.lst (sD ls)])) := fun q => by
    rw [len_ref (at1 q), sD_len]
  have p1 : (0 : Int) < (ls.length : Int) := by omega
  have s1 : sm (ls.length : Int) := sm_lt (by omega) (by omega)
  obtain ⟨hr, q1, e1, f1, a1, b1⟩ := draw q0 (ls.length : Int) p1 (by omega)
  obtain ⟨hn, rfl⟩ := Int.eq_ofNat_of_zero_le a1
  have k1 := fun R => tk (R := R) p1 s1 e1 f1
  have lS : ∀ h, lenF (.str (SS A)) h = .ok (.int (A.length : Int)) h := fun h => lenS (by omega)
  have p2 : (0 : Int) < (A.length : Int) + 1 := by omega
  have s2 : sm ((A.length : Int) + 1) := sm_lt (by omega) (by omega)
  obtain ⟨pl, q2, e2, f2, a2, b2⟩ := draw q1 ((A.length : Int) + 1) p2 (by omega)
  obtain ⟨pn, rfl⟩ := Int.eq_ofNat_of_zero_le a2
  have k2 := fun R => tk (R := R) p2 s2 e2 f2
  obtain ⟨sg, q3, e3, f3, a3, b3⟩ := draw q2 16 (by omega) (by omega)
  obtain ⟨c, hc⟩ : ∃ c, ∀ h, ixF (.str "0123456789- \nadl") (.int sg) h = .ok (.str (SS [c])) h := by
    rw [s_signs]
    obtain ⟨sn, rfl⟩ := Int.eq_ofNat_of_zero_le a3
    have lt : sn < 16 := by omega
    exact ⟨([48, 49, 50, 51, 52, 53, 54, 55, 56, 57, 45, 32, 10, 97, 100, 108] : List Nat)[sn]'(by exact lt), fun h => ixS (k := ((sn : Nat) : Int)) (List.getElem?_eq_getElem (by exact lt)) (by omega) (by decide)⟩
  have t1 : ∀ h, slF (.str (SS A)) none (some (pn : Int)) h = .ok (.str (SS (A.take pn))) h := fun h => slS_to (by omega) (by omega)
  have t2 : ∀ h, slF (.str (SS A)) (some ((pn : Int) + 1)) none h = .ok (.str (SS (A.drop (pn + 1)))) h := fun h => slS_from (k := ((pn + 1 : Nat) : Int)) (by omega) (by omega)
  have t3 : ∀ h, slF (.str (SS A)) (some (pn : Int)) none h = .ok (.str (SS (A.drop pn))) h := fun h => slS_from (by omega) (by omega)
  have u1 : ∀ h, addF (.str (SS (A.take pn))) (.str (SS [c])) h = .ok (.str (SS (A.take pn ++ [c]))) h := fun h => addS (by simp; omega)
  have u2 : ∀ h, addF (.str (SS (A.take pn ++ [c]))) (.str (SS (A.drop (pn + 1)))) h = .ok (.str (SS (A.take pn ++ [c] ++ A.drop (pn + 1)))) h := fun h => addS (by simp; omega)
  have u3 : ∀ h, addF (.str (SS (A.take pn ++ [c]))) (.str (SS (A.drop pn))) h = .ok (.str (SS (A.take pn ++ [c] ++ A.drop pn))) h := fun h => addS (by simp; omega)
  have u4 : ∀ h, addF (.str (SS (A.take pn))) (.str (SS (A.drop (pn + 1)))) h = .ok (.str (SS (A.take pn ++ A.drop (pn + 1)))) h := fun h => addS (by simp; omega)
  have ct := count_take (c := 10) (n := pn) (a := A)
  have cd : (A.drop (pn + 1)).count 10 ≤ (A.drop pn).count 10 := by
    have : A.drop (pn + 1) = (A.drop pn).drop 1 := by rw [List.drop_drop, Nat.add_comm]
    rw [this]
    have := count_take (c := 10) (n := 1) (a := A.drop pn)
    omega
  have c1 : List.count 10 [c] ≤ 1 := List.count_le_length
  have R15 : ∀ k, RL 15 (A.take pn ++ [c] ++ A.drop k) := fun k => ((rl.take pn).app (RL.len (k := 1) (by simp))).app (rl.drop k)
  have R14 : ∀ k, RL 15 (A.take pn ++ A.drop k) := fun k => ((rl.take pn).app (rl.drop k)).mono (by omega)
  have JB : ∀ ps : List (List Nat), ps.length ≤ 374 → (∀ p ∈ ps, p.length ≤ 104 ∧ RL 7 p ∧ 10 ∉ p) → Bt (J 10 ps) := fun ps h1 h2 => by
    have := J_le (s := 10) (m := 104) fun p hp => (h2 p hp).1
    have h3 := Nat.mul_le_mul_right (104 + 1) h1
    have := cnt_J fun p hp => (h2 p hp).2.2
    exact ⟨by omega, (RL_J (.inr rfl) ps fun p hp => (h2 p hp).2.1).mono (by omega), by omega⟩
  have LW : ∀ p ∈ ls, p.length ≤ 104 ∧ RL 7 p ∧ 10 ∉ p := fun p hp => ⟨by have := ll p hp; omega, lr p hp, fr p hp⟩
  have fe : f__law_bent = runF s__law_bent 2 9 := rfl
  rw [s__law_bent_al] at fe
  rw [fe]
  have kk : ∀ q, (dh q (r ++ [.lst (sD ls)])).cut (r.length + 2) = dh q r := fun q => back_dh Grow.refl
  have hs : ∀ {q : Dst}, sD ls = sD ls := rfl
  by_cases m2 : mn < 2
  · refine ⟨_, q3, ?_, ⟨?_, R15 (pn + 1), ?_⟩⟩
    rotate_left
    · simp; omega
    · rw [List.count_append, List.count_append]; omega
    · simp [e0, f0, sp, spp, ln, k1, lS, k2, e3, f3, hc, m2, t1, t2, u1, u2, kk, -lenF_refO, -push_ap, -dh_push, -lenF_str, -List.append_assoc, -dh_cut]
  by_cases m3 : mn = 2
  · refine ⟨_, q3, ?_, ⟨?_, R15 pn, ?_⟩⟩
    rotate_left
    · simp; omega
    · rw [List.count_append, List.count_append]; omega
    · simp [e0, f0, sp, spp, ln, k1, lS, k2, e3, f3, hc, m2, m3, t1, t3, u1, u3, kk, -lenF_refO, -push_ap, -dh_push, -lenF_str, -List.append_assoc, -dh_cut]
  by_cases m4 : mn = 3
  · refine ⟨_, q3, ?_, ⟨?_, R14 (pn + 1), ?_⟩⟩
    rotate_left
    · simp; omega
    · rw [List.count_append]; omega
    · simp [e0, f0, sp, spp, ln, k1, lS, k2, e3, f3, hc, m2, m3, m4, t1, t2, u4, kk, -lenF_refO, -push_ap, -dh_push, -lenF_str, -List.append_assoc, -dh_cut]
  by_cases m5 : mn = 4
  · subst m5
    have B : Bt (J 10 (ls.take hn ++ ls.drop (hn + 1))) := JB _ (by simp; omega) fun p hp => by
      rcases List.mem_append.mp hp with hp | hp
      · exact LW p (List.mem_of_mem_take hp)
      · exact LW p (List.mem_of_mem_drop hp)
    obtain ⟨Y, y1, G⟩ := e4_ap (e := [some (.ref 1), some (.str (SS A)), some (.int 4), some (.ref (r.length + 2)), some (.int (hn : Int)), some (.int (pn : Int)), some (.str (SS [c])), none, none]) (n := hn) rfl rfl (at1 q3) (by omega) (by have := B.1; omega)
    refine ⟨_, q3, ?_, B⟩
    have k := back_dh' G
    simp [e0, f0, sp, spp, ln, k1, lS, k2, e3, f3, hc, y1, k, -lenF_refO, -push_ap, -dh_push, -lenF_str, -List.append_assoc, -dh_cut]
  by_cases m6 : mn = 5
  · subst m6
    have B : Bt (J 10 (ls.take (hn + 1) ++ ls.drop hn)) := JB _ (by simp; omega) fun p hp => by
      rcases List.mem_append.mp hp with hp | hp
      · exact LW p (List.mem_of_mem_take hp)
      · exact LW p (List.mem_of_mem_drop hp)
    obtain ⟨Y, y1, G⟩ := e5_ap (e := [some (.ref 1), some (.str (SS A)), some (.int 5), some (.ref (r.length + 2)), some (.int (hn : Int)), some (.int (pn : Int)), some (.str (SS [c])), none, none]) (n := hn) rfl rfl (at1 q3) (by omega) (by have := B.1; omega)
    refine ⟨_, q3, ?_, B⟩
    have k := back_dh' G
    simp [e0, f0, sp, spp, ln, k1, lS, k2, e3, f3, hc, y1, k, -lenF_refO, -push_ap, -dh_push, -lenF_str, -List.append_assoc, -dh_cut]
  · obtain ⟨w, hw⟩ : ∃ w, ls[hn]? = some w := ⟨_, List.getElem?_eq_getElem (by omega)⟩
    have wm : w ∈ ls := List.mem_of_getElem? hw
    have ix := ixW (at1 q3) hw
    have sp2 := split_ap (x := " ") (a := w) (h := dh q3 (r ++ [.lst (sD ls)])) s_blank (by decide) (by have := ll w wm; omega)
    obtain ⟨w1, w2⟩ := lw w wm
    have wc : 1 ≤ (parts 32 w).length := by rw [parts_count]; omega
    have wl := ll w wm
    generalize hW : parts 32 w = ws at *
    have at2 : ∀ q, (dh q (r ++ [.lst (sD ls), .lst (sD ws)])).at (r.length + 3) = some (.lst (sD ws)) := fun q => by
      show (r ++ [.lst (sD ls), .lst (sD ws)])[r.length + 1]? = _
      rw [List.getElem?_append_right (by omega), show r.length + 1 - r.length = 1 by omega]; rfl
    have at3 : ∀ q, (dh q (r ++ [.lst (sD ls), .lst (sD ws)])).at (r.length + 2) = some (.lst (sD ls)) := fun q => by
      show (r ++ [.lst (sD ls), .lst (sD ws)])[r.length]? = _
      rw [List.getElem?_append_right (by omega), Nat.sub_self]; rfl
    have spq : (dh q3 (r ++ [.lst (sD ls)])).push (.lst (sD ws)) = dh q3 (r ++ [.lst (sD ls), .lst (sD ws)]) := by
      rw [dh_push, List.append_assoc]; rfl
    have sp2 : splitF (.str (SS w)) [.str " "] (dh q3 (r ++ [.lst (sD ls)])) = .ok (.ref (r.length + 3)) (dh q3 (r ++ [.lst (sD ls), .lst (sD ws)])) := by
      rw [sp2, spq, dh_len, List.length_append]; rfl
    have ln2 : ∀ q, lenF (.ref (r.length + 3)) (dh q (r ++ [.lst (sD ls), .lst (sD ws)])) = .ok (.int (ws.length : Int)) (dh q (r ++ [.lst (sD ls), .lst (sD ws)])) := fun q => by
      rw [len_ref (at2 q), sD_len]
    have p4 : (0 : Int) < (ws.length : Int) := by omega
    have s4 : sm (ws.length : Int) := sm_lt (by omega) (by omega)
    obtain ⟨sr, q4, e4, f4, a4, b4⟩ := draw q3 (ws.length : Int) p4 (by omega)
    obtain ⟨sn, rfl⟩ := Int.eq_ofNat_of_zero_le a4
    have k4 := fun R => tk (R := R) p4 s4 e4 f4
    have wb : ∀ x ∈ ws.take (sn + 1) ++ ws.drop sn, x.length ≤ 7 ∧ 10 ∉ x := fun x hx => by
      rcases List.mem_append.mp hx with hx | hx
      · exact w1 x (List.mem_of_mem_take hx)
      · exact w1 x (List.mem_of_mem_drop hx)
    have nl : (J 32 (ws.take (sn + 1) ++ ws.drop sn)).length ≤ 104 := by
      have := J_le (s := 32) (m := 7) fun p hp => (wb p hp).1
      have h3 : (ws.take (sn + 1) ++ ws.drop sn).length ≤ 13 := by simp; omega
      have := Nat.mul_le_mul_right (7 + 1) h3
      omega
    have B : Bt (J 10 (ls.take hn ++ [J 32 (ws.take (sn + 1) ++ ws.drop sn)] ++ ls.drop (hn + 1))) := JB _ (by simp; omega) fun p hp => by
      rcases List.mem_append.mp hp with hp | hp
      · rcases List.mem_append.mp hp with hp | hp
        · exact LW p (List.mem_of_mem_take hp)
        · rw [List.mem_singleton.mp hp]
          exact ⟨nl, RL_J (.inl rfl) _ fun x hx => RL.len (wb x hx).1, J_free (by decide) _ fun x hx => (wb x hx).2⟩
      · exact LW p (List.mem_of_mem_drop hp)
    obtain ⟨Y, y1, G⟩ := e6_ap (e := [some (.ref 1), some (.str (SS A)), some (.int mn), some (.ref (r.length + 2)), some (.int (hn : Int)), some (.int (pn : Int)), some (.str (SS [c])), some (.ref (r.length + 3)), some (.int (sn : Int))]) (n := hn) (n2 := sn) rfl rfl rfl rfl (at3 q4) (at2 q4) (by omega) (by omega) (by omega) (by have := B.1; omega)
    refine ⟨_, q4, ?_, B⟩
    have k := back_dh' G
    simp [e0, f0, sp, spp, ln, k1, lS, k2, e3, f3, hc, m2, m3, m4, m5, m6, ix, sp2, ln2, k4, y1, k, -lenF_refO, -push_ap, -dh_push, -lenF_str, -List.append_assoc, -dh_cut, -ixF_refO]
end Lk47

set_option exponentiation.threshold 5000
namespace Lk47
open PySem PySem.Spec PyProof.Rows L2 Dy
/-! ### codes as data -/
def pN (ns : List Int) : List PyData := ns.map PyData.int
theorem toPy_N {f : Nat → Option PyData} : ∀ ns : List Int, toPyL f (ns.map .int) = some (pN ns)
  | [] => rfl
  | n :: r => by
    show (match toPyL f (r.map .int) with | some ps => some (PyData.int n :: ps) | none => none) = _
    rw [toPy_N r]; rfl
theorem lay_N : ∀ ns : List Int, PyData.canLayAll0 (pN ns) = true ∧ PyData.depthAll (pN ns) = 0
  | [] => ⟨rfl, rfl⟩
  | n :: r => by
    obtain ⟨h1, h2⟩ := lay_N r
    exact ⟨by show (PyData.canLay0 (.int n) && PyData.canLayAll0 (pN r)) = true; rw [h1]; rfl, by show max 0 (PyData.depthAll (pN r)) = 0; rw [h2]; rfl⟩
def pI : Ins → PyData
  | .set a b => .tuple (.str "set" :: pN [a, b])
  | .load a b c => .tuple (.str "load" :: pN [a, b, c])
  | .store a b c => .tuple (.str "store" :: pN [a, b, c])
  | .mac a b c d e f => .tuple (.str "mac" :: pN [a, b, c, d, e, f])
  | .loop a b c d => .tuple (.str "loop" :: pN [a, b, c, d])
  | .fin => .tuple (.str "end" :: pN [])
  | .skip a b => .tuple (.str "skip" :: pN [a, b])
  | .inn a b c d e f => .tuple (.str "in" :: pN [a, b, c, d, e, f])
  | .out a b c d e f => .tuple (.str "out" :: pN [a, b, c, d, e, f])
  | .wait a => .tuple (.str "wait" :: pN [a])
  | .vec k d a b c => .tuple (.str "vector" :: .str k :: pN [d, a, b, c])
  | .doo k d ss fs => .tuple [.str "do", .str k, .int d, .tuple (pN ss), .tuple (pN fs)]
theorem toPy_Ins {f : Nat → Option PyData} (i : Ins) : toPyG f (iD i) = some (pI i) := by
  cases i with
  | doo k d ss fs =>
    simp only [iD, toPyG, toPyL, toPy_N, pI]
  | _ => rfl
theorem okS_pw {k : Str} (t : k ∈ PW) : PyData.canLay0 (.str k) = true := by
  refine pw_cases (P := fun k => PyData.canLay0 (.str k) = true) ?_ ?_ ?_ ?_ ?_ ?_ ?_ ?_ ?_ ?_ ?_ t
  all_goals decide +kernel
theorem lay_op {z : Str} {ns : List Int} (h : PyData.canLay0 (.str z) = true) : PyData.canLay0 (.tuple (.str z :: pN ns)) = true ∧ PyData.depth (.tuple (.str z :: pN ns)) ≤ 2 := by
  obtain ⟨h1, h2⟩ := lay_N ns
  refine ⟨?_, ?_⟩
  · show (PyData.canLay0 (.str z) && PyData.canLayAll0 (pN ns)) = true
    rw [h, h1]; rfl
  · show max 0 (PyData.depthAll (pN ns)) + 1 ≤ 2
    omega
theorem lay_Ins {i : Ins} (t : Ty i) : PyData.canLay0 (pI i) = true ∧ PyData.depth (pI i) ≤ 2 := by
  cases i with
  | doo k d ss fs =>
    obtain ⟨h1, h2⟩ := lay_N ss
    obtain ⟨h3, h4⟩ := lay_N fs
    refine ⟨?_, ?_⟩
    · show (PyData.canLay0 (.str "do") && (PyData.canLay0 (.str k) && (true && (PyData.canLayAll0 (pN ss) && (PyData.canLayAll0 (pN fs) && true))))) = true
      rw [okS_pw t.1, h1, h3]; decide +kernel
    · show max 0 (max 0 (max 0 (max (PyData.depthAll (pN ss) + 1) (max (PyData.depthAll (pN fs) + 1) 0)))) + 1 ≤ 2
      omega
  | vec k d a b c =>
    obtain ⟨h1, h2⟩ := lay_N [d, a, b, c]
    refine ⟨?_, ?_⟩
    · show (PyData.canLay0 (.str "vector") && (PyData.canLay0 (.str k) && PyData.canLayAll0 (pN [d, a, b, c]))) = true
      rw [okS_pw t, h1]; decide +kernel
    · show max 0 (max 0 (PyData.depthAll (pN [d, a, b, c]))) + 1 ≤ 2
      omega
  | set a b => exact lay_op (by decide +kernel)
  | load a b c => exact lay_op (by decide +kernel)
  | store a b c => exact lay_op (by decide +kernel)
  | mac a b c d e f => exact lay_op (by decide +kernel)
  | loop a b c d => exact lay_op (by decide +kernel)
  | fin => exact lay_op (by decide +kernel)
  | skip a b => exact lay_op (by decide +kernel)
  | inn a b c d e f => exact lay_op (by decide +kernel)
  | out a b c d e f => exact lay_op (by decide +kernel)
  | wait a => exact lay_op (by decide +kernel)
theorem toPy_C {f : Nat → Option PyData} : ∀ is : List Ins, toPyL f (is.map iD) = some (is.map pI)
  | [] => rfl
  | i :: r => by
    show (match toPyG f (iD i) with | some p => (match toPyL f (r.map iD) with | some ps => some (p :: ps) | none => none) | none => none) = _
    rw [toPy_Ins, toPy_C r]; rfl
theorem lay_C : ∀ {is : List Ins}, (∀ i ∈ is, Ty i) → PyData.canLayAll0 (is.map pI) = true ∧ PyData.depthAll (is.map pI) ≤ 2
  | [], _ => ⟨rfl, Nat.zero_le _⟩
  | i :: r, t => by
    obtain ⟨h1, h2⟩ := lay_Ins (t i List.mem_cons_self)
    obtain ⟨h3, h4⟩ := lay_C fun j hj => t j (List.mem_cons_of_mem i hj)
    refine ⟨?_, ?_⟩
    · show (PyData.canLay0 (pI i) && PyData.canLayAll0 (r.map pI)) = true
      rw [h1, h3]; rfl
    · show max (PyData.depth (pI i)) (PyData.depthAll (r.map pI)) ≤ 2
      omega
section
variable {is : List Ins} {h : PH}
theorem toPy_cD : toPy h (cD is) = some (.tuple (is.map pI)) := by
  show (match toPyL (cellPy h 3) (is.map iD) with | some ps => some (PyData.tuple ps) | none => none) = _
  rw [toPy_C]
theorem lay_cD (t : ∀ i ∈ is, Ty i) : PyData.canLay0 (.tuple (is.map pI)) = true ∧ SeqAt.shaped (.tuple (is.map pI)) = true := by
  obtain ⟨l1, l2⟩ := lay_C t
  have c0 : PyData.canLay0 (.tuple (is.map pI)) = true := l1
  refine ⟨c0, ?_⟩
  show (PyData.canLay0 (.tuple (is.map pI)) && decide (PyData.depthAll (is.map pI) + 1 ≤ 64)) = true
  rw [c0, decide_eq_true (by omega)]; rfl
theorem self_B (t : ∀ i ∈ is, Ty i) : eqB (cD is) (cD is) h = some true := by
  obtain ⟨c0, s0⟩ := lay_cD t
  have ev : PyData.eqv (.tuple (is.map pI)) (.tuple (is.map pI)) = true := PySem.SeqAt.eqv_refl _ c0
  show eqD h (cD is) (cD is) = _
  unfold eqD
  rw [toPy_cD]
  simp only []
  rw [if_pos ⟨s0, s0⟩, ev]
theorem ne_self (t : ∀ i ∈ is, Ty i) : neF (cD is) (cD is) h = .ok (.bl false) h := by
  unfold neF
  rw [self_B t]; rfl
theorem eq_self (t : ∀ i ∈ is, Ty i) : eqF (cD is) (cD is) h = .ok (.bl true) h := by
  unfold eqF
  rw [self_B t]
theorem not_in (t : ∀ i ∈ is, Ty i) : notInF (cD is) (.tup [.str "text", .str "other"]) h = .ok (.bl true) h := by
  obtain ⟨c0, s0⟩ := lay_cD t
  have tb : toPy h (.tup [.str "text", .str "other"]) = some (.tuple [.str "text", .str "other"]) := rfl
  have s1 : SeqAt.shaped (.tuple [.str "text", .str "other"]) = true := by decide +kernel
  have e : inB (cD is) (.tup [.str "text", .str "other"]) h = some false := by
    show (if flatD (cD is) = true ∧ [D.str "text", .str "other"].all flatD = true then some ([D.str "text", .str "other"].any fun d => eqFl d (cD is)) else
        (match toPy h (cD is), toPy h (.tup [.str "text", .str "other"]) with
        | some p, some (.list ps) => if SeqAt.shaped p = true ∧ SeqAt.shaped (.list ps) = true then some (ps.any fun z => PyData.eqv z p) else none
        | some p, some (.tuple ps) => if SeqAt.shaped p = true ∧ SeqAt.shaped (.tuple ps) = true then some (ps.any fun z => PyData.eqv z p) else none
        | _, _ => none)) = _
    have nf : ¬ (flatD (cD is) = true ∧ [D.str "text", .str "other"].all flatD = true) := fun z => by cases z.1
    rw [if_neg nf, toPy_cD, tb]
    simp only []
    rw [if_pos ⟨s0, s1⟩]
    rfl
  unfold notInF
  rw [e]; rfl
end
end Lk47

set_option exponentiation.threshold 5000
namespace Lk47
open PySem PySem.Spec PyProof.Rows L2 Dy
/-! ### what reading tells -/
theorem chk_cases {a d e : Int} {is : List Ins} {c : Str} (q : chk a d e is = some c) : c = "FormError" ∨ c = "RangeError" ∨ c = "TooLarge" := by
  unfold chk at q
  split at q
  · split at q
    · split at q
      · split at q
        · split at q
          · split at q
            · cases q; exact .inr (.inr rfl)
            · cases q
          · cases q; exact .inr (.inl rfl)
        · cases q; exact .inl rfl
      · cases q; exact .inl rfl
    · cases q; exact .inl rfl
  · cases q; exact .inl rfl
section
variable {a b c d e : Int} {h : PH} {t : List Nat}
theorem told_text (g : GM a b c d e) (lt : t.length ≤ 50000) (hl : h.lim ≤ h.cs.length) (q : RC t = none) : f__law_told [M a b c d e, .str (SS t)] h = .ok (.str "text") h := by
  have rb := (read_ap (t := t) g lt hl).1 q
  have s0 : subO "TensorError" "TextError" = some true := by decide +kernel
  have i1 : isE "TextError" "TextError" 3 = cE (.bl true) := by
    unfold isE
    rw [show subLook "TextError" "TextError" tb.sub = some true by decide +kernel]
  have mx : max h.cs.length h.lim = h.cs.length := by omega
  unfold f__law_told s__law_told
  simp [b__law_told_1, rb, s0, i1, mx, cut_len]
/-- the code of a bent text, its facts -/
theorem back_of {is : List Ins} (B : Bt t) (q : RC t = some is) : due is = t ∧ (∀ i ∈ is, Ty i) ∧ (∀ i ∈ is, okI i) ∧ is.length ≤ 3000 ∧ ∀ i ∈ is, SB i := by
  obtain ⟨b1, b2, b3⟩ := B
  obtain ⟨e1, t1, _⟩ := RC_back q b1
  have cn := due_cnt (is := is)
  refine ⟨e1, fun i hi => (t1 i hi).1, fun i hi => (t1 i hi).2, by rw [e1] at cn; omega, due_SB (by rw [e1]; exact b2)⟩
theorem told_other {is : List Ins} {x : Str} (g : GM a b c d e) (B : Bt t) (hl : h.lim ≤ h.cs.length) (q : RC t = some is) (ck : chk a d e is = some x) : f__law_told [M a b c d e, .str (SS t)] h = .ok (.str "other") h := by
  obtain ⟨e1, ty, _, l3, sb⟩ := back_of B q
  have rb := (read_ap (t := t) g (by have := B.1; omega) hl).2 is q l3 ty sb
  rw [ck] at rb
  have rb : f_read_code [M a b c d e, .str (SS t)] h = .exc x h := rb
  have mx : max h.cs.length h.lim = h.cs.length := by omega
  rcases chk_cases ck with rfl | rfl | rfl
  · have s0 : subO "TensorError" "FormError" = some true := by decide +kernel
    have i1 : isE "FormError" "TextError" 3 = cE (.bl false) := by
      unfold isE
      rw [show subLook "FormError" "TextError" tb.sub = some false by decide +kernel]
    unfold f__law_told s__law_told
    simp [b__law_told_1, rb, s0, i1, mx, cut_len]
  · have s0 : subO "TensorError" "RangeError" = some true := by decide +kernel
    have i1 : isE "RangeError" "TextError" 3 = cE (.bl false) := by
      unfold isE
      rw [show subLook "RangeError" "TextError" tb.sub = some false by decide +kernel]
    unfold f__law_told s__law_told
    simp [b__law_told_1, rb, s0, i1, mx, cut_len]
  · have s0 : subO "TensorError" "TooLarge" = some true := by decide +kernel
    have i1 : isE "TooLarge" "TextError" 3 = cE (.bl false) := by
      unfold isE
      rw [show subLook "TooLarge" "TextError" tb.sub = some false by decide +kernel]
    unfold f__law_told s__law_told
    simp [b__law_told_1, rb, s0, i1, mx, cut_len]
theorem mrC (is : List Ins) : (cD is).mr = 0 := by unfold cD; rw [mr_tup, mrIs]
theorem told_code {is : List Ins} (g : GM a b c d e) (lt : t.length ≤ 50000) (l3 : is.length ≤ 3000) (ty : ∀ i ∈ is, Ty i) (sb : ∀ i ∈ is, SB i) (hl : h.lim ≤ h.cs.length) (q : RC t = some is) (ck : chk a d e is = none) : f__law_told [M a b c d e, .str (SS t)] h = .ok (cD is) h := by
  have rb := (read_ap (t := t) g lt hl).2 is q l3 ty sb
  rw [ck] at rb
  have rb : f_read_code [M a b c d e, .str (SS t)] h = .ok (cD is) h := rb
  have mx : max h.cs.length h.lim = h.cs.length := by omega
  have mc := mrC is
  unfold f__law_told s__law_told
  simp [b__law_told_1, rb, mx, mc, cut_len]
end
/-! ### one turn of the law's loop -/
theorem slS_last {b : List Nat} {h : PH} (l : b.length ≤ 16777216) : slF (.str (SS b)) (some (-1)) none h = .ok (.str (SS (b.drop (b.length - 1)))) h := by
  show (if (SS b).length ≤ 16777216 then Res.ok (D.str (cutS (SS b) (some (-1)) none)) h else .stuck) = _
  rw [if_pos (by rw [SS_len]; exact l)]
  have : cutS (SS b) (some (-1)) none = SS (b.drop (b.length - 1)) := by
    unfold cutS
    rw [SS_len, HT.sIx_none]
    have e : HT.sIx b.length 0 (some (-1)) = b.length - 1 := by
      unfold HT.sIx
      simp
      omega
    rw [e]
    show SS ((b.drop (b.length - 1)).take (b.length - (b.length - 1))) = _
    rw [List.take_of_length_le (by rw [List.length_drop]; omega)]
  rw [this]
def CT : TM := orT (andT (tbT (b2E neF (vE 7) (cE (.str "")))) (tbT (b2E neF (slE (vE 7) (someO (u1E negF (cE (.int 1)))) (noO)) (cE (.str "\n"))))) (orT (tbT (b2E inF (cE (.str "  ")) (vE 7))) (orT (tbT (b2E inF (cE (.str " \n")) (vE 7))) (tbT (b2E inF (cE (.str "\n\n")) (vE 7)))))
theorem b_law_0_al : b_law_0 = seqS (asgS (nA (callF 2 f__law_bent) (consA (vE 1) (consA (vE 4) (nilA)))) (.one 7)) (seqS (asgS (nA (callF 2 f__law_told) (consA (vE 2) (consA (vE 7) (nilA)))) (.one 8)) (seqS (ifS (tbT (b2E notInF (vE 8) (nA tupF (consA (cE (.str "text")) (consA (cE (.str "other")) (nilA)))))) (seqS (ifS (tbT (b2E neF (nA (callF 2 f_write_code) (consA (vE 2) (consA (vE 8) (nilA)))) (vE 7))) (seqS (retS (cE (.bl false))) (nextS)) (nextS)) (nextS)) (nextS)) (seqS (ifS CT (seqS (ifS (tbT (b2E neF (vE 8) (cE (.str "text")))) (seqS (retS (cE (.bl false))) (nextS)) (nextS)) (nextS)) (nextS)) (nextS)))) := rfl
def badB (b : List Nat) : Bool := (!decide (b = []) && !decide (b.drop (b.length - 1) = [10])) || (strIn "  " (SS b) || (strIn " \n" (SS b) || strIn "\n\n" (SS b)))
theorem ct_ap {env : Dy.Env} {b : List Nat} {h : PH} (h7 : env[7]? = some (some (.str (SS b)))) (l : b.length ≤ 16777216) : CT env h = .ok (badB b) h := by
  have n1 : ∀ h, neF (.str (SS b)) (.str "") h = .ok (.bl (!decide (b = []))) h := fun h => by rw [s_empty, neS]
  have n2 : ∀ h, slF (.str (SS b)) (some (-1)) none h = .ok (.str (SS (b.drop (b.length - 1)))) h := fun h => slS_last l
  have n3 : ∀ h, neF (.str (SS (b.drop (b.length - 1)))) (.str "\n") h = .ok (.bl (!decide (b.drop (b.length - 1) = [10]))) h := fun h => by rw [s_feed, neS]
  have n4 : ∀ (z : Str) h, inF (.str z) (.str (SS b)) h = .ok (.bl (strIn z (SS b))) h := fun z h => rfl
  unfold CT badB
  generalize (!decide (b = [])) = z1 at *
  generalize (!decide (b.drop (b.length - 1) = [10])) = z2 at *
  generalize hz3 : strIn "  " (SS b) = z3 at *
  generalize hz4 : strIn " \n" (SS b) = z4 at *
  generalize hz5 : strIn "\n\n" (SS b) = z5 at *
  cases z1 <;> cases z2 <;> cases z3 <;> cases z4 <;> cases z5 <;> simp [h7, n1, n2, n3, n4, hz3, hz4, hz5, -neF_str]
theorem s_bb : ("  " : Str) = SS [32, 32] := by decide +kernel
theorem s_bf : (" \n" : Str) = SS [32, 10] := by decide +kernel
theorem s_ff : ("\n\n" : Str) = SS [10, 10] := by decide +kernel
theorem ends_ok {b : List Nat} (E : Ends b) : badB b = false := by
  obtain ⟨h1, h2, h3, h4⟩ := E
  unfold badB
  rw [s_bb, s_bf, s_ff, in_two h2, in_two h3, in_two h4]
  rcases h1 with rfl | ⟨_, la⟩
  · rfl
  · have : b.drop (b.length - 1) = [10] := by
      have ne : b ≠ [] := by intro z; rw [z] at la; cases la
      obtain ⟨r, x, rfl⟩ := snoc_of ne
      rw [List.getLast?_concat] at la
      cases la
      simp
    rw [decide_eq_true this]
    simp
theorem turn {a b c d e : Int} {is : List Ins} {x0 x3 x5 x6 x7 x8 x9 : Option D} (gs : GS a b c d e) (hg : ∀ i ∈ is, gd a d e i) (l : is.length ≤ 371) (q : Dst) (R : List Cell) : ∃ q' y7 y8, b_law_0 [x0, some (.ref 1), some (M a b c d e), x3, some (.str (SS (due is))), x5, x6, x7, x8, x9] (dh q R) = .nxt [x0, some (.ref 1), some (M a b c d e), x3, some (.str (SS (due is))), x5, x6, y7, y8, x9] (dh q' R) := by
  obtain ⟨t, q', e0, B⟩ := bent_ap hg l q R
  have g := gs.m
  have hl : (dh q' R).lim ≤ (dh q' R).cs.length := Nat.zero_le _
  rw [b_law_0_al]
  have ct := fun y8 => ct_ap (env := [x0, some (.ref 1), some (M a b c d e), x3, some (.str (SS (due is))), x5, x6, some (.str (SS t)), some y8, x9]) (b := t) (h := dh q' R) rfl (by have := B.1; omega)
  cases qc : RC t with
  | none =>
    have tt := told_text (h := dh q' R) g (by have := B.1; omega) hl qc
    have ni : ∀ h, notInF (.str "text") (.tup [.str "text", .str "other"]) h = .ok (.bl false) h := fun h => by kernel_rfl
    refine ⟨q', some (.str (SS t)), some (.str "text"), ?_⟩
    cases z : badB t <;> simp [e0, tt, ni, ct, z]
  | some js =>
    obtain ⟨e1, ty, ok, l3, sb⟩ := back_of B qc
    have bf : badB t = false := by rw [← e1]; exact ends_ok (due_ends ty)
    cases ck : chk a d e js with
    | some x =>
      have tt := told_other (h := dh q' R) g B hl qc ck
      have ni : ∀ h, notInF (.str "other") (.tup [.str "text", .str "other"]) h = .ok (.bl false) h := fun h => by kernel_rfl
      refine ⟨q', some (.str (SS t)), some (.str "other"), ?_⟩
      simp [e0, tt, ni, ct, bf]
    | none =>
      have tt := told_code (h := dh q' R) g (by have := B.1; omega) l3 ty sb hl qc ck
      have ni := not_in (h := dh q' R) ty
      have wr := write_ap (h := dh q' R) g ⟨ok, l3, by rw [e1]; have := B.1; omega⟩ ty sb ck hl
      rw [e1] at wr
      have ne : ∀ h, neF (.str (SS t)) (.str (SS t)) h = .ok (.bl false) h := fun h => by rw [neS, decide_eq_true rfl]; rfl
      refine ⟨q', some (.str (SS t)), some (cD js), ?_⟩
      simp [e0, tt, ni, ct, bf, wr, ne]
end Lk47

set_option exponentiation.threshold 5000
namespace Lk47
open PySem PySem.Spec PyProof.Rows L2 Dy
theorem loop4 {a b c d e : Int} {is : List Ins} {x0 x3 x5 x9 : Option D} (gs : GS a b c d e) (hg : ∀ i ∈ is, gd a d e i) (l : is.length ≤ 371) (R : List Cell) : ∀ (ks : List D) (q : Dst) (x6 x7 x8 : Option D), ∃ q' y6 y7 y8, forV (.one 6) b_law_0 (R.length + 2) ks [x0, some (.ref 1), some (M a b c d e), x3, some (.str (SS (due is))), x5, x6, x7, x8, x9] (dh q R) = .nxt [x0, some (.ref 1), some (M a b c d e), x3, some (.str (SS (due is))), x5, y6, y7, y8, x9] (dh q' R)
  | [], q, x6, x7, x8 => ⟨q, x6, x7, x8, rfl⟩
  | k :: ks, q, x6, x7, x8 => by
    obtain ⟨q1, y7, y8, z⟩ := turn (x0 := x0) (x3 := x3) (x5 := x5) (x6 := some k) (x7 := x7) (x8 := x8) (x9 := x9) gs hg l q R
    obtain ⟨q2, w6, w7, w8, z2⟩ := loop4 (x0 := x0) (x3 := x3) (x5 := x5) (x9 := x9) gs hg l R ks q1 (some k) y7 y8
    refine ⟨q2, w6, w7, w8, ?_⟩
    rw [forV_cons, tgt_one, tgtO_some]
    show (b_law_0 [x0, some (.ref 1), some (M a b c d e), x3, some (.str (SS (due is))), x5, some k, x7, x8, x9] (dh q R)).nextV _ _ _ _ = _
    rw [z, nextV_nxt, dh_gc (Nat.le_refl _)]
    exact z2
def LN : EM := compXE (srcE (vE 3)) [9] (.one 9) yesT e_law_1
theorem s_law_al : s_law = seqS (asgS (nA (callF 1 f__law_begin) (consA (vE 0) (nilA))) (.one 1)) (seqS (asgS (nA (callF 1 f__law_machine) (consA (vE 1) (nilA))) (.one 2)) (seqS (asgS (nA (Dy.f1 tupleF) (consA (nA (callF 4 (f__law_block 12)) (consA (vE 1) (consA (vE 2) (consA (cE (.int 0)) (consA (b2E addF (cE (.int 1)) (nA (callF 2 f__law_take) (consA (vE 1) (consA (cE (.int 7)) (nilA))))) (nilA)))))) (nilA))) (.one 3)) (seqS (asgS (mtE "str" joinF (cE (.str "")) (consA (LN) (nilA))) (.one 4)) (seqS (asgS (nA (callF 2 f_write_code) (consA (vE 2) (consA (vE 3) (nilA)))) (.one 5)) (seqS (ifS (orT (notT (trT (nA (Dy.f2 isiF) (consA (vE 5) (consA (cE (.ty "str")) (nilA)))))) (orT (tbT (b2E neF (vE 5) (vE 4))) (orT (tbT (b2E neF (nA (callF 2 f_read_code) (consA (vE 2) (consA (vE 4) (nilA)))) (vE 3))) (tbT (b2E neF (nA (callF 2 f_write_code) (consA (vE 2) (consA (nA tupF (nilA)) (nilA)))) (cE (.str ""))))))) (seqS (retS (cE (.bl false))) (nextS)) (nextS)) (seqS (forS (rngE rangeF1 (consA (cE (.int 4)) (nilA))) (.one 6) b_law_0) (seqS (retS (andE (b2E eqF (nA (callF 2 f__law_told) (consA (vE 2) (consA (cE (.str "")) (nilA)))) (nA tupF (nilA))) (b2E eqF (nA (callF 2 f__law_told) (consA (vE 2) (consA (b2E addF (vE 4) (cE (.str "\n"))) (nilA)))) (cE (.str "text"))))) (nextS)))))))) := rfl
theorem isiSS {z : Str} {h : PH} : isiF (.str z) (.ty "str") h = .ok (.bl true) h := by
  show (if tyAsk.contains "str" = true then Res.ok (D.bl (isiB "str" "str")) h else .stuck) = _
  rw [if_pos (by decide +kernel), show isiB "str" "str" = true by decide +kernel]
theorem ln_x {X : PH} {is : List Ins} {e : Dy.Env} (h3 : e[3]? = some (some (cD is))) (l10 : e.length = 10) (ok : ∀ i ∈ is, okI i) (l : is.length ≤ 3000) (hl : X.lim ≤ X.cs.length) : LN e X = .ok (.ref X.cs.length) (X.push (.lst (sD (is.map lnT)))) := by
  have cv := lines_c (elt := e_law_1) (e0 := e.set 9 none) (j := 9) (X := X) (fun i oi => by
    have li := lline_ap oi hl
    have g9 : ((e.set 9 none).set 9 (some (iD i)))[9]? = some (some (iD i)) := by rw [List.getElem?_set_self (by rw [List.length_set, l10]; omega)]
    unfold e_law_1
    simp only [List.set_set] at g9 ⊢
    simp [g9, li]) is ok
  have ll : (sD (is.map lnT)).length ≤ 16777216 := by rw [sD_len, List.length_map]; omega
  unfold LN
  unfold cD at h3
  simp [h3, cv, flX_ok ll, -push_ap]
theorem RC_more {is : List Ins} (ty : ∀ i ∈ is, Ty i) : RC (due is ++ [10]) = none := by
  have e : due is ++ [10] = J 10 ((is.map (fun i => J 32 (wI i)) ++ [[]]) ++ [[]]) := by
    rw [J_lines, List.map_append, List.flatten_append, List.map_map]; rfl
  have pp : parts 10 (due is ++ [10]) = (is.map (fun i => J 32 (wI i)) ++ [[]]) ++ [[]] := by
    rw [e]
    refine J_parts 10 (by simp) fun p hp => ?_
    rcases List.mem_append.mp hp with hp | hp
    · rcases List.mem_append.mp hp with hp | hp
      · obtain ⟨i, hi, rfl⟩ := List.mem_map.mp hp
        exact line_free (ty i hi)
      · rw [List.mem_singleton.mp hp]; simp
    · rw [List.mem_singleton.mp hp]; simp
  unfold RC
  rw [pp, List.getLast?_concat, if_pos rfl, List.dropLast_concat]
  have no : ∀ ls : List (List Nat), seqI (ls ++ [[]]) = none := by
    intro ls
    induction ls with
    | nil =>
      show (match II (parts 32 []) with
        | some i => (match seqI [] with
          | some is => some (i :: is)
          | none => none)
        | none => none) = none
      have : II (parts 32 []) = none := by
        have p0 : parts 32 [] = [[]] := rfl
        rw [p0]
        rw [II_op (by decide +kernel) (by decide +kernel)]
        show mkI (SS []) [] = none
        decide +kernel
      rw [this]
    | cons p r ih =>
      show (match II (parts 32 p) with
        | some i => (match seqI (r ++ [[]]) with
          | some is => some (i :: is)
          | none => none)
        | none => none) = none
      rw [ih]
      cases II (parts 32 p) <;> rfl
  exact no _
theorem pure_law (s : List Int) (hs : s.length ≤ 63) : ∃ h, f_law [.frl (s.map .int)] ⟨[], 0⟩ = .ok (.bl true) h := by
  have fe : f_law = runF s_law 1 10 := rfl
  rw [s_law_al] at fe
  obtain ⟨a, b, c, d, e, q1, gs, e1⟩ := machine_ap (beginQ s) []
  have g := gs.m
  obtain ⟨r2, q2, e2, f2, a2, b2⟩ := draw q1 7 (by omega) (by omega)
  obtain ⟨q3, g3, m, is, e3, A, m2, Bk, l3⟩ := block_ap gs 8 3 (by omega) (1 + r2) q2 [] (by omega) (by omega)
  have l : is.length ≤ 371 := by
    have s3 : SZ 3 = 53 := rfl
    rw [s3] at l3
    have : (1 + r2).toNat ≤ 7 := by omega
    have := Nat.mul_le_mul_right 53 this
    omega
  have hg := blk_gd Bk
  have ck := blk_chk Bk (by omega)
  have ty : ∀ i ∈ is, Ty i := fun i hi => (hg i hi).1
  have ok : ∀ i ∈ is, okI i := fun i hi => gd_okI (hg i hi)
  have dl := due_le hg
  have sb : ∀ i ∈ is, SB i := due_SB ((due_RL hg).mono (by omega))
  have rc : RC (due is) = some is := RC_ok fun i hi => ⟨ty i hi, gd_NS (hg i hi)⟩
  rw [List.nil_append] at e3 A
  have e3 : f__law_block 12 [.ref 1, M a b c d e, .int 0, .int (1 + r2)] (dh q2 []) = .ok (.ref m) (dh q3 g3) := e3
  have tf : tupleF (.ref m) (dh q3 g3) = .ok (cD is) (dh q3 g3) := by rw [tupleF_refO, A.at_]; rfl
  have hl : ∀ (q : Dst) (R : List Cell), (dh q R).lim ≤ (dh q R).cs.length := fun q R => Nat.zero_le _
  have ln := ln_x (X := dh q3 g3) (e := [some (.frl (s.map .int)), some (.ref 1), some (M a b c d e), some (cD is), none, none, none, none, none, none]) rfl rfl ok (by omega) (hl _ _)
  obtain ⟨R, hR⟩ : ∃ R, g3 ++ [.lst (sD (is.map lnT))] = R := ⟨_, rfl⟩
  have pR : (dh q3 g3).push (.lst (sD (is.map lnT))) = dh q3 R := by rw [← hR]; rfl
  have aR : (dh q3 R).at (dh q3 g3).cs.length = some (.lst (sD (is.map lnT))) := by rw [← pR]; exact push_at
  rw [pR] at ln
  have ln : LN [some (.frl (s.map .int)), some (.ref 1), some (M a b c d e), some (cD is), none, none, none, none, none, none] (dh q3 g3) = .ok (.ref (g3.length + 2)) (dh q3 R) := ln
  have j : joinF (.str "") [.ref (g3.length + 2)] (dh q3 R) = .ok (.str (SS (due is))) (dh q3 R) := joinE_ap aR (by show (due is).length ≤ _; omega)
  have wr := write_ap (h := dh q3 R) g ⟨ok, by omega, by omega⟩ ty sb ck (hl _ _)
  have rd := (read_ap (h := dh q3 R) (t := due is) g (by omega) (hl _ _)).2 is rc (by omega) ty sb
  rw [ck] at rd
  have rd : f_read_code [M a b c d e, .str (SS (due is))] (dh q3 R) = .ok (cD is) (dh q3 R) := rd
  have ck0 : chk a d e [] = none := by
    have := blk_chk (a := a) (d := d) (e := e) (is := []) .nil (by simp)
    exact this
  have w0 : f_write_code [M a b c d e, .tup []] (dh q3 R) = .ok (.str (SS [])) (dh q3 R) := write_ap (is := []) g ⟨fun i hi => (by cases hi), by simp, by simp [due]⟩ (fun i hi => by cases hi) (fun i hi => by cases hi) ck0 (hl _ _)
  have n1 : ∀ h, neF (.str (SS (due is))) (.str (SS (due is))) h = .ok (.bl false) h := fun h => by rw [neS, decide_eq_true rfl]; rfl
  have n2 : neF (cD is) (cD is) (dh q3 R) = .ok (.bl false) (dh q3 R) := ne_self ty
  have n3 : ∀ h, neF (.str (SS [])) (.str "") h = .ok (.bl false) h := fun h => by rw [s_empty, neS, decide_eq_true rfl]; rfl
  obtain ⟨q4, y6, y7, y8, z⟩ := loop4 (x0 := some (.frl (s.map .int))) (x3 := some (cD is)) (x5 := some (.str (SS (due is)))) (x9 := none) gs hg l R (rangeD 0 1 4) q3 none none none
  have t0 : f__law_told [M a b c d e, .str ""] (dh q4 R) = .ok (.tup []) (dh q4 R) := by
    rw [s_empty]
    exact told_code (is := []) g (by simp) (by simp) (fun i hi => by cases hi) (fun i hi => by cases hi) (hl _ _) rfl ck0
  have q0 : eqF (.tup []) (.tup []) (dh q4 R) = .ok (.bl true) (dh q4 R) := eq_self (is := []) (fun i hi => by cases hi)
  have ad : addF (.str (SS (due is))) (.str "\n") (dh q4 R) = .ok (.str (SS (due is ++ [10]))) (dh q4 R) := by rw [s_feed, addS (by simp; omega)]
  have t1 := told_text (t := due is ++ [10]) (h := dh q4 R) g (by simp; omega) (hl _ _) (RC_more ty)
  rw [fe]
  simp [hs, e1, e2, f2, e3, tf, ln, j, wr, isiSS, n1, rd, n2, w0, n3, z, t0, q0, ad, t1, -tupleF_refO, -rangeD_cons, -push_ap, -dh_push]
end Lk47

/-! The head of a text with imports, from one run off the tree. -/
noncomputable section
namespace Dy
open PySem PySem.W PySem.Calls PyProof.Rows HandSHeadRun
/-- the imports, to the exit's begin -/
def impF (st : SharedT → Thread → Option (SharedT × Thread)) : Nat → SharedT → Thread → Option SharedT
  | 0, _, _ => none
  | m + 1, s, t => match t.atExitBegin with
    | some [] => some s
    | some (_ :: _) => none
    | none => match st s t with
      | some (s', t') => frS s' fun s' => impF st m s' t'
      | none => none
theorem impF_ok {tb : String → Option Builtin} {p : Program} {w : World} : ∀ {m : Nat} {s s' : SharedT} {t : Thread}, impF (stepT (denote tb) p w) m s t = some s' → importEnds tb p w m s.abs t = some s'.abs
  | 0, _, _, _, h => by cases h
  | m + 1, s, s', t, h => by
    have h1 : (match t.atExitBegin with
      | some [] => some s
      | some (_ :: _) => none
      | none => match stepT (denote tb) p w s t with
        | some (s', t') => frS s' fun s' => impF (stepT (denote tb) p w) m s' t'
        | none => none) = some s' := h
    unfold importEnds
    cases ht : t.atExitBegin with
    | some l =>
      rw [ht] at h1
      cases l with
      | nil => cases h1; rfl
      | cons x xs => cases h1
    | none =>
      rw [ht] at h1
      have h2 : (match stepT (denote tb) p w s t with
        | some (s', t') => frS s' fun s' => impF (stepT (denote tb) p w) m s' t'
        | none => none) = some s' := h1
      cases hs : stepT (denote tb) p w s t with
      | none => rw [hs] at h2; cases h2
      | some r =>
        obtain ⟨s2, t2⟩ := r
        rw [hs] at h2
        have h3 : (frS s2 fun s' => impF (stepT (denote tb) p w) m s' t2) = some s' := h2
        rw [frS_eq] at h3
        have q := impF_ok h3
        show (match step (denote tb) p w s.abs t with
          | .go s' t' => importEnds tb p w m s' t'
          | .halt _ _ => none) = some s'.abs
        rw [stepT_spec hs]
        exact q
def startT (p : Program) : SharedT := ⟨.nil, 0, (start p).1.heap.life, (start p).1.gens, (start p).1.drawn, (start p).1.toks, (start p).1.os⟩
theorem startT_abs (p : Program) : (startT p).abs = (start p).1 := rfl
/-- the fence, on the tree -/
def fenceT? (m : PySem.Str) (s : SharedT) : Option SharedT := match boundIn s.abs.heap sysModules m, tameNamesOf? m with
  | some (.ref a), some row => match getT s a with
    | some o => match o.dict with
      | some D => match (s.tree.get D).isSome, getT s D with
        | true, some od => match fenceDict? m row od with
          | some od' => some ⟨s.tree.set D fun _ => od', s.n, s.life, s.gens, s.drawn, s.toks, s.os⟩
          | none => none
        | _, _ => none
      | none => none
    | none => none
  | _, _ => none
theorem fenceT_ok {m : PySem.Str} {s s' : SharedT} (h : fenceT? m s = some s') : fenceModule? m s.abs = some s'.abs := by
  unfold fenceT? at h
  unfold fenceModule?
  split at h
  · rename_i a row h1 h2
    rw [h1, h2]
    split at h
    · rename_i o h3
      rw [getT_eq] at h3
      simp only [h3]
      split at h
      · rename_i D h4
        simp only [h4]
        split at h
        · rename_i od h5 h6
          rw [getT_eq] at h6
          simp only [h6]
          split at h
          · rename_i od' h7
            rw [h7]
            cases h
            obtain ⟨x, hx⟩ := Option.isSome_iff_exists.mp h5
            show some _ = some _
            congr 1
            show Shared.mk _ _ _ _ _ = Shared.mk _ _ _ _ _
            congr 1
            exact (absHeap_set hx).symm
          · cases h
        · cases h
      · cases h
    · cases h
  · cases h
def fencesT? : List PySem.Str → SharedT → Option SharedT
  | [], s => some s
  | m :: r, s => match fenceT? m s with
    | some s' => fencesT? r s'
    | none => none
theorem fencesT_ok : ∀ {l : List PySem.Str} {s s' : SharedT}, fencesT? l s = some s' → fenceAll? l s.abs = some s'.abs
  | [], s, s', h => by cases h; rfl
  | m :: r, s, s', h => by
    have h1 : (match fenceT? m s with
      | some s' => fencesT? r s'
      | none => none) = some s' := h
    show (fenceModule? m s.abs).bind (fenceAll? r) = _
    cases e : fenceT? m s with
    | none => rw [e] at h1; cases h1
    | some s2 =>
      rw [e] at h1
      rw [fenceT_ok e]
      exact fencesT_ok h1
/-- both, and the state ahead of the top -/
def openT (st1 st2 : SharedT → Thread → Option (SharedT × Thread)) (M1 M : Nat) (p : Program) : Option (SharedT × SharedT) :=
  match impF st1 M1 (startT (opening p)) (start (opening p)).2 with
  | some s1 => match fencesT? (importedModules p.main.body) s1 with
    | some s0 => match s0.abs.heap.isNs mainGlobals && s0.gens.size == 0 with
      | true => match goF st2 s0.n (s0.abs.heap.nsMap mainGlobals "__annotations__") M s0 (topStub p) with
        | some s => some (s0, s)
        | none => none
      | false => none
    | none => none
  | none => none
theorem left_imp {p q : Program} {loose : List PySem.Str} {Xt : Shared → Bool} {α : Type} {Yf : Shared → α} {Ya : World → α} {M1 M : Nat} (hm : Nat.ble M1 M = true) (hn : p.main.body.any namesNumpy = false)
    (run : ∀ w : World, (openT (stepT (denote treeTable) (opening p) w) (stepT (denote treeTable) p w) M1 M p).map (fun r => (looksF p r.1.abs.heap r.2.abs, openSeen q loose (importedModules p.main.body) Xt true r.2.abs, Yf r.2.abs)) = some (true, openGood q loose, Ya w)) :
    LeftO p q loose Xt Yf Ya M true := fun w => by
  obtain ⟨⟨s0, s⟩, hs, hv⟩ := Option.map_eq_some_iff.mp (run w)
  obtain ⟨l1, l2, l3⟩ : _ ∧ _ ∧ _ := by simpa only [Prod.mk.injEq] using hv
  unfold openT at hs
  split at hs
  · rename_i s1 h1
    split at hs
    · rename_i s0' h2
      split at hs
      · rename_i h3
        split at hs
        · rename_i s' h4
          cases hs
          have m1 := importEnds_mono (M - M1) _ _ _ _ (impF_ok h1)
          rw [show M1 + (M - M1) = M by have := Nat.le_of_ble_eq_true hm; omega, startT_abs] at m1
          have f1 : fenceModules? p s1.abs = some s0.abs := by
            unfold fenceModules?
            rw [fencesT_ok h2, hn]
            rfl
          have g := goF_ok h4
          have en : s0.abs.heap.objs.size = s0.n := absHeap_size _ _ _
          have t : topFrom treeTable p w M s0.abs = some s.abs := by
            unfold topFrom
            rw [show (s0.abs.heap.isNs mainGlobals && s0.abs.gens.size == 0) = true from h3, en]
            show (topRun treeTable p w s0.n (s0.abs.heap.nsMap mainGlobals "__annotations__") M s0.abs (topStub p)).bind _ = _
            rw [g]
            have l1' : (staticsOk (importedModules p.main.body) s0.abs.heap s.abs.heap && namesBound p s.abs.heap && gensDone s.abs && laidKept s0.abs.heap s.abs.heap) = true := l1
            show (match staticsOk (importedModules p.main.body) s0.abs.heap s.abs.heap && namesBound p s.abs.heap && gensDone s.abs && laidKept s0.abs.heap s.abs.heap with | true => some s.abs | false => none) = _
            rw [l1']
          unfold openEnds fencedOpening
          rw [m1]
          show ((fenceModules? p s1.abs).bind _).map _ = _
          rw [f1]
          show (topFrom treeTable p w M s0.abs).map _ = _
          rw [t]
          exact congrArg some (Prod.ext l2 l3)
        · cases hs
      · cases hs
    · cases hs
  · cases hs
/-- the run's equation -/
def RunI (r : OpenRow) (q : Program) (H : Hook) (ob : SharedT → H.α) (M1 M : Nat) (loose : List PySem.Str) (w : World) : Prop :=
  (openT (stepQ (denQ tabQ) (opening r.prog) w) (stepQ (denQ tabQ) r.prog w) M1 M r.prog).map (fun z => (looksF r.prog z.1.abs.heap z.2.abs, seenQ q loose (importedModules r.prog.main.body) (fun s => xlAt q [] s && recOk r.toRowW.records s) z.2.abs, ob z.2)) = some (true, openGood q loose, H.val w)
theorem run_split {r : OpenRow} {q : Program} {H : Hook} {ob : SharedT → H.α} {M1 M : Nat} {loose : List PySem.Str} (row : String) (h0 : ∀ w : World, RunI r q H ob M1 M loose (w.withFollow row false)) (h1 : ∀ w : World, RunI r q H ob M1 M loose (w.withFollow row true)) (w : World) : RunI r q H ob M1 M loose w := by
  have e := World.withFollow_self w row
  cases hb : w.params.followText row <;> rw [hb] at e
  · rw [← e]; exact h0 w
  · rw [← e]; exact h1 w
theorem left_run {r : OpenRow} {q : Program} {H : Hook} {ob : SharedT → H.α} {M1 M : Nat} {loose : List PySem.Str} (ho : ∀ s : SharedT, ob s = H.obs s.abs) (hm : Nat.ble M1 M = true) (hn : r.prog.main.body.any namesNumpy = false)
    (run : ∀ w, RunI r q H ob M1 M loose w) : LeftO r.prog q loose (fun s => xlAt q [] s && recOk r.toRowW.records s) H.obs H.val M true :=
  left_imp (M1 := M1) hm hn fun w => by
    have z := run w
    have eo : ob = fun s => H.obs s.abs := funext ho
    unfold RunI at z
    rw [eo, ← stepQ_eq, ← denQ_eq, ← tabQ_eq] at z
    simp only [seenQ_eq]
    exact z
theorem head_imp {r : OpenRow} {q : Program} {H : Hook} {ob : SharedT → H.α} {M : Nat} {loose : List PySem.Str} {d : DefRec} {kwd : List (PySem.Str × PySem.Expr)} (ho : ∀ s : SharedT, ob s = H.obs s.abs)
    (left : LeftO r.prog q loose (fun s => xlAt q [] s && recOk r.toRowW.records s) H.obs H.val M true)
    (hdef : defOf q r.name = some (d, kwd)) (hp : r.prog.theDef r.name = some (d.params, d.body, d.scope)) (hk : kwWritten? d.params.kwonlyargs d.params.kw_defaults = some kwd)
    (hwr : (!r.writes || r.records.isEmpty) = true) (k1 : r.wellSaid = true) (o1 : chainsOk q = true) (o2 : opensWell r.prog = true) (o3 : frees r.toRowW = true) (o4 : r.within.isEmpty = true) (hb : r.prog.bare) (hw : r.toRowW.promised)
    (call : WalkO q loose (XL q []) H.says r.toRowW d kwd fun f vs => PySem.call f vs) : r.Holds :=
  holds_open (r := r) (q := q) (loose := loose) (XP := XL q []) (YP := H.says) (d := d) (kwd := kwd) left H.of H.keeps (fun s z => xl_of s (Bool.and_eq_true_iff.mp z).1) XL.keeps hdef hp hk (fun s z => recFacts_of (Bool.and_eq_true_iff.mp z).2) hwr k1 (by rw [o1, o2, o3, o4]; rfl) hb hw call
/-- what the Hook of many names sees, off the tree -/
def obY (xs : List PySem.Str) (n : Nat) (t : Tb) (gl : List PySem.Str) (fn : List He.DefD) (s : SharedT) : AlX := obsX t gl fn (He.frG (getT s) (asY (getT s) xs n))
theorem obY_eq {xs : List PySem.Str} {n : Nat} {t : Tb} {gl : List PySem.Str} {fn : List He.DefD} (s : SharedT) : obY xs n t gl fn s = (hookY xs n t gl fn).obs s.abs := by
  have e : getT s = s.abs.heap.get? := funext fun a => getT_eq s a
  unfold obY
  rw [e] <;> rfl
end Dy

namespace Lk47
open PySem PySem.W PySem.Calls PyProof.Rows Dy
abbrev R : OpenRow := OpenLaw.row PySem.Challenge.rw_tensorcompiler_k47_code_texts
def ob (s : SharedT) : AlX := obY nms 5 tb gl fn s
def loose : List PySem.Str := [("__name__" : Str), ("TensorError" : Str), ("TextError" : Str), ("RangeError" : Str), ("TooLarge" : Str), ("FormError" : Str), ("MachineError" : Str), ("FIGURES" : Str), ("read_integer" : Str), ("ARGS" : Str), ("FIELDS" : Str), ("POINTWISE" : Str), ("WIDEST" : Str), ("fields_in_range" : Str), ("LIMITS" : Str), ("check_machine" : Str), ("fits_width" : Str), ("CODE_LIMIT" : Str), ("NEST_LIMIT" : Str), ("EXECUTION_LIMIT" : Str), ("LENGTHS" : Str), ("SLOTS" : Str), ("OFFSETS" : Str), ("well_formed" : Str), ("depths_of" : Str), ("check_skip" : Str), ("loop_in_range" : Str), ("own_in_range" : Str), ("in_range" : Str), ("steps_in" : Str), ("check_code" : Str), ("FIGURE_LIMIT" : Str), ("line_of" : Str), ("write_code" : Str), ("number_in" : Str), ("kind_in" : Str), ("group_in" : Str), ("do_in" : Str), ("instruction_in" : Str), ("read_code" : Str), ("_law_begin" : Str), ("_law_take" : Str), ("_law_signed" : Str), ("_law_machine" : Str), ("_law_info_of" : Str), ("_law_do" : Str), ("_law_transfer" : Str), ("_law_instruction" : Str), ("_law_block" : Str), ("_law_line" : Str), ("_law_told" : Str), ("_law_bent" : Str)]
theorem run0 (w : World) : RunI R (view R.prog [58]) hk ob 3000 20000 loose (w.withFollow "special-get-raises" false) := by
  unfold RunI
  kernel_rfl
theorem run1 (w : World) : RunI R (view R.prog [58]) hk ob 3000 20000 loose (w.withFollow "special-get-raises" true) := by
  unfold RunI
  kernel_rfl
theorem run (w : World) : RunI R (view R.prog [58]) hk ob 3000 20000 loose w := run_split "special-get-raises" run0 run1 w
theorem left : LeftO R.prog (view R.prog [58]) loose (fun s => xlAt (view R.prog [58]) [] s && recOk R.toRowW.records s) hk.obs hk.val 20000 true := left_run (M1 := 3000) obY_eq (by rfl) (by kernel_rfl) run
theorem l_def : defOf (view R.prog [58]) R.name = some (HandSHeadRun.topDef R.prog 58, []) := by kernel_rfl
theorem l_the : R.prog.theDef R.name = some ((HandSHeadRun.topDef R.prog 58).params, (HandSHeadRun.topDef R.prog 58).body, (HandSHeadRun.topDef R.prog 58).scope) := by kernel_rfl
theorem l_kw : kwWritten? (HandSHeadRun.topDef R.prog 58).params.kwonlyargs (HandSHeadRun.topDef R.prog 58).params.kw_defaults = some [] := by kernel_rfl
theorem l_ch : chainsOk (view R.prog [58]) = true := by decide +kernel
theorem l_op : opensWell R.prog = true := by first | k_qdec | decide +kernel
theorem l_fr : frees R.toRowW = true := by kernel_rfl
theorem l_wi : R.within.isEmpty = true := by kernel_rfl
end Lk47
open PySem PySem.W PySem.Calls PyProof.Rows
theorem PySem.Challenge.cw_tensorcompiler_k47_code_texts_holds : PySem.Challenge.rw_tensorcompiler_k47_code_texts.Holds := by
  w_on; o_law
  refine Dy.head_imp (r := Lk47.R) (q := view Lk47.R.prog [58]) (H := Lk47.hk) (ob := Lk47.ob) (M := 20000) (loose := Lk47.loose) (d := HandSHeadRun.topDef Lk47.R.prog 58) (kwd := []) Dy.obY_eq Lk47.left Lk47.l_def Lk47.l_the Lk47.l_kw
    (by rfl) (by first | assumption | decide +kernel) Lk47.l_ch Lk47.l_op Lk47.l_fr Lk47.l_wi ⟨rfl, rfl, rfl, rfl, rfl, by decide +kernel⟩ ?hw ?hc
  case hw => w_witness2
  case hc =>
    refine Dy.law_end (l := PySem.Challenge.rw_tensorcompiler_k47_code_texts) (k := 18) (n := 4) (t := Lk47.tb) (gl := Lk47.gl) (fn := Lk47.fn) (f := Lk47.f_law) rfl ?a ⟨rfl, by decide, by decide⟩ ?b (fun w K mg c T => Lk47.law_is c T) Lk47.pure_law
    case a => rfl
    case b => rfl
