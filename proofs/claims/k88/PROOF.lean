import PyProof.Rows.All
import Wide.All
import OpenK.AllK
import Wide.FinOn
import HandS.ForMost
import HandS.Wide
import HandS.Gcd
import HandS.TupSets
import HandS.TupAny
import HandS.TupMul
import HandS.Deep
import HandS.IsInst
import HandS.WideBits
import PyProof.ReprRoads
import HandS.Zip
import HandS.Rev
import HandS.Walk
import KE.GoesMore
import KE.GoesEnum
import HandS.More
import HandS.Style
import HandS.Codes
import HandS.RevRange
import KE.GoesZip
import HandS.Conv
import KE.KDictZip
import HandS.ListItems
import PyProof.FitsInt
import PySem.Challenge.RW_partedcolumns_k88_whole_bleeds
set_option Elab.async false
set_option linter.all false
set_option maxRecDepth 100000
set_option maxHeartbeats 8000000
/-! DL1: data over the abstract heap: values as PyData, slots with owned lists, steps. -/
namespace DL
open PySem PySem.Spec PyProof.Rows L2
abbrev D := PyData
abbrev St := L2.St
/-- what may be read as u: tracked and not among the bad addresses -/
def SqLb (K : PySem.W.Frag) (H : Hp) (bad : Addr → Prop) (a : Addr) (xs : List V) : Prop := (Rd H a (.lst xs) ∧ ¬ bad a) ∨
    ∃ (o : Obj) (its : Array Value) (n : Nat), K.lookup a = some o ∧ o.cls = .type "list" ∧ o.dict = none ∧ o.data = .seq its n ∧ its.size ≤ sizeLine ∧ Vals xs its.toList
def SqTb (K : PySem.W.Frag) (H : Hp) (bad : Addr → Prop) (a : Addr) (xs : List V) : Prop :=
  (Rd H a (.tup xs) ∧ ¬ bad a) ∨
    ∃ (o : Obj) (its : Array Value) (n : Nat), K.lookup a = some o ∧ o.cls = .type "tuple" ∧ o.data = .seq its n ∧ its.size ≤ sizeLine ∧ Vals xs its.toList
theorem SqLb.sq {K : PySem.W.Frag} {H : Hp} {bad : Addr → Prop} {a : Addr} {xs : List V} (h : SqLb K H bad a xs) : SqL K H a xs := h.imp And.left id
theorem SqTb.sq {K : PySem.W.Frag} {H : Hp} {bad : Addr → Prop} {a : Addr} {xs : List V} (h : SqTb K H bad a xs) : SqT K H a xs := h.imp And.left id
mutual
/-- the value v is the datum d; no bad address is in it -/
inductive DV (K : PySem.W.Frag) (H : Hp) (bad : Addr → Prop) : V → D → Prop
  | non : DV K H bad .non .none
  | bl (b : Bool) : DV K H bad (.bl b) (.bool b)
  | int (i : Int) : DV K H bad (.int i) (.int i)
  | str (x : Str) : DV K H bad (.str x) (.str x)
  | lst {a : Addr} {xs : List V} {ds : List D} : SqLb K H bad a xs → DVs K H bad xs ds → DV K H bad (.ref a) (.list ds)
  | tup {a : Addr} {xs : List V} {ds : List D} : SqTb K H bad a xs → DVs K H bad xs ds → DV K H bad (.ref a) (.tuple ds)
inductive DVs (K : PySem.W.Frag) (H : Hp) (bad : Addr → Prop) : List V → List D → Prop
  | nil : DVs K H bad [] []
  | cons {v : V} {vs : List V} {d : D} {ds : List D} : DV K H bad v d → DVs K H bad vs ds → DVs K H bad (v :: vs) (d :: ds)
end
section
variable {K : PySem.W.Frag} {H H' : Hp} {bad bad' : Addr → Prop}
theorem SqLb.mono {a : Addr} {xs : List V} (h : SqLb K H bad a xs) (k : ∀ a o, H a = some o → ¬ bad a → H' a = some o ∧ ¬ bad' a) : SqLb K H' bad' a xs := by
  rcases h with ⟨h | ⟨o, h⟩, n⟩ | h
  · exact .inl ⟨.inl (k _ _ h n).1, (k _ _ h n).2⟩
  · exact .inl ⟨.inr ⟨o, (k _ _ h n).1⟩, (k _ _ h n).2⟩
  · exact .inr h
theorem SqTb.mono {a : Addr} {xs : List V} (h : SqTb K H bad a xs) (k : ∀ a o, H a = some o → ¬ bad a → H' a = some o ∧ ¬ bad' a) : SqTb K H' bad' a xs := by
  rcases h with ⟨h | ⟨o, h⟩, n⟩ | h
  · exact .inl ⟨.inl (k _ _ h n).1, (k _ _ h n).2⟩
  · exact .inl ⟨.inr ⟨o, (k _ _ h n).1⟩, (k _ _ h n).2⟩
  · exact .inr h
mutual
theorem DV.mono (k : ∀ a o, H a = some o → ¬ bad a → H' a = some o ∧ ¬ bad' a) : ∀ (d : D) (v : V), DV K H bad v d → DV K H' bad' v d
  | .none, _, h => by cases h; exact .non
  | .bool _, _, h => by cases h; exact .bl _
  | .int _, _, h => by cases h; exact .int _
  | .str _, _, h => by cases h; exact .str _
  | .list ds, _, h => by cases h with | lst s r => exact .lst (s.mono k) (DVs.mono k ds _ r)
  | .tuple ds, _, h => by cases h with | tup s r => exact .tup (s.mono k) (DVs.mono k ds _ r)
  | .dict _, _, h => by cases h
theorem DVs.mono (k : ∀ a o, H a = some o → ¬ bad a → H' a = some o ∧ ¬ bad' a) : ∀ (ds : List D) (vs : List V), DVs K H bad vs ds → DVs K H' bad' vs ds
  | [], _, h => by cases h; exact .nil
  | d :: ds, _, h => by cases h with | cons a r => exact .cons (DV.mono k d _ a) (DVs.mono k ds _ r)
end
mutual
theorem DV.dp : ∀ (d : D) (v : V), DV K H bad v d → Dp K H v d
  | .none, _, h => by cases h; exact .non
  | .bool _, _, h => by cases h; exact .bl _
  | .int _, _, h => by cases h; exact .int _
  | .str _, _, h => by cases h; exact .str _
  | .list ds, _, h => by cases h with | lst s r => exact .lst s.sq (DVs.dp ds _ r)
  | .tuple ds, _, h => by cases h with | tup s r => exact .tup s.sq (DVs.dp ds _ r)
  | .dict _, _, h => by cases h
theorem DVs.dp : ∀ (ds : List D) (vs : List V), DVs K H bad vs ds → DpAll K H vs ds
  | [], _, h => by cases h; exact .nil
  | d :: ds, _, h => by cases h with | cons a r => exact .cons (DV.dp d _ a) (DVs.dp ds _ r)
end
theorem DVs.length : ∀ {vs : List V} {ds : List D}, DVs K H bad vs ds → vs.length = ds.length
  | _, [], h => by cases h; rfl
  | _, d :: ds, h => by cases h with | cons a r => simp [DVs.length r]
theorem DVs.get : ∀ {ds : List D} {vs : List V} {i : Nat} {d : D}, DVs K H bad vs ds → ds[i]? = some d → ∃ v, vs[i]? = some v ∧ DV K H bad v d
  | [], _, _, _, h, e => by simp at e
  | d :: ds, _, 0, _, h, e => by cases h with | cons a r => simp at e; subst e; exact ⟨_, rfl, a⟩
  | d :: ds, _, i + 1, _, h, e => by
    cases h with
    | cons a r => obtain ⟨v, h1, h2⟩ := DVs.get (i := i) r (by simpa using e); exact ⟨v, by simpa using h1, h2⟩
theorem DVs.get' : ∀ {ds : List D} {vs : List V} {i : Nat} {v : V}, DVs K H bad vs ds → vs[i]? = some v → ∃ d, ds[i]? = some d ∧ DV K H bad v d
  | [], _, _, _, h, e => by cases h; simp at e
  | d :: ds, _, 0, _, h, e => by cases h with | cons a r => simp at e; subst e; exact ⟨_, rfl, a⟩
  | d :: ds, _, i + 1, _, h, e => by
    cases h with
    | cons a r => obtain ⟨v, h1, h2⟩ := DVs.get' (i := i) r (by simpa using e); exact ⟨v, by simpa using h1, h2⟩
theorem DVs.append : ∀ {ds es : List D} {vs ws : List V}, DVs K H bad vs ds → DVs K H bad ws es → DVs K H bad (vs ++ ws) (ds ++ es)
  | [], _, _, _, h, g => by cases h; exact g
  | d :: ds, _, _, _, h, g => by cases h with | cons a r => exact .cons a (DVs.append r g)
theorem DVs.set {v : V} {d : D} (q : DV K H bad v d) : ∀ {ds : List D} {vs : List V} (i : Nat), DVs K H bad vs ds → DVs K H bad (vs.set i v) (ds.set i d)
  | [], _, _, h => by cases h; exact .nil
  | e :: ds, _, 0, h => by cases h with | cons a r => exact .cons q r
  | e :: ds, _, i + 1, h => by cases h with | cons a r => exact .cons a (DVs.set q i r)
theorem DVs.take : ∀ {ds : List D} {vs : List V} (n : Nat), DVs K H bad vs ds → DVs K H bad (vs.take n) (ds.take n)
  | _, _, 0, _ => .nil
  | [], _, _ + 1, h => by cases h; exact .nil
  | d :: ds, _, n + 1, h => by cases h with | cons a r => exact .cons a (DVs.take n r)
theorem DVs.drop : ∀ {ds : List D} {vs : List V} (n : Nat), DVs K H bad vs ds → DVs K H bad (vs.drop n) (ds.drop n)
  | _, _, 0, h => h
  | [], _, _ + 1, h => by cases h; exact .nil
  | d :: ds, _, n + 1, h => by cases h with | cons a r => exact DVs.drop n r
theorem DVs.reverse : ∀ {ds : List D} {vs : List V}, DVs K H bad vs ds → DVs K H bad vs.reverse ds.reverse
  | [], _, h => by cases h; exact .nil
  | d :: ds, _, h => by cases h with | cons a r => simp only [List.reverse_cons]; exact (DVs.reverse r).append (.cons a .nil)
theorem DVs.ints : ∀ {ns : List Int} {vs : List V}, DVs K H bad vs (ns.map .int) → vs = ns.map V.int
  | [], _, h => by cases h; rfl
  | n :: ns, _, h => by cases h with | cons a r => cases a; simp [DVs.ints r]
theorem DVs.of_ints : ∀ (ns : List Int), DVs K H bad (ns.map V.int) (ns.map .int)
  | [] => .nil
  | n :: ns => .cons (.int n) (DVs.of_ints ns)
end
/-! ### slots -/
inductive Sl where
  /-- an immutable or frozen thing -/
  | dat (d : D)
  /-- a list that only this name holds (io: the caller holds it too and gets it back) -/
  | own (io : Bool) (xs : List D)
abbrev Rho := List (Option Sl)
/-- what stands in a slot -/
def gt : Rho → Nat → Option Sl
  | [], _ => none
  | x :: _, 0 => x
  | _ :: r, i + 1 => gt r i
theorem gt_set : ∀ (ρ : Rho) (i j : Nat) (x : Option Sl), i < ρ.length → gt (ρ.set i x) j = if j = i then x else gt ρ j
  | [], _, _, _, h => by simp at h
  | _ :: _, 0, 0, _, _ => rfl
  | _ :: _, 0, j + 1, _, _ => by simp [List.set, gt]
  | _ :: _, i + 1, 0, _, _ => by simp [List.set, gt]
  | _ :: r, i + 1, j + 1, x, h => by
    have q := gt_set r i j x (by simpa using h)
    simp only [List.set, gt, q, Nat.add_right_cancel_iff]
theorem gt_lt : ∀ {ρ : Rho} {i : Nat} {s : Sl}, gt ρ i = some s → i < ρ.length
  | [], _, _, h => by simp [gt] at h
  | _ :: _, 0, _, _ => by simp
  | _ :: r, i + 1, s, h => by have := gt_lt (ρ := r) (i := i) h; simp; omega
theorem set_big : ∀ (ρ : Rho) (i : Nat) (x : Option Sl), ρ.length ≤ i → ρ.set i x = ρ
  | [], _, _, _ => rfl
  | _ :: _, 0, _, h => by simp at h
  | _ :: r, i + 1, x, h => by simp only [List.set]; rw [set_big r i x (by simpa using h)]
theorem gt_set_self {ρ : Rho} {i : Nat} {x : Option Sl} (h : i < ρ.length) : gt (ρ.set i x) i = x := by rw [gt_set _ _ _ _ h, if_pos rfl]
theorem gt_set_ne {ρ : Rho} {i j : Nat} {x : Option Sl} (h : j ≠ i) : gt (ρ.set i x) j = gt ρ j := by
  by_cases hl : i < ρ.length
  · rw [gt_set _ _ _ _ hl, if_neg h]
  · rw [set_big _ _ _ (by omega)]
/-- the address a is that of an owned list -/
def Own (σ : St) (ρ : Rho) (a : Addr) : Prop := ∃ i io xs, gt ρ i = some (Sl.own io xs) ∧ σ[i]? = some (some (V.ref a))
def Bad (F : Addr → Prop) (σ : St) (ρ : Rho) (a : Addr) : Prop := F a ∨ Own σ ρ a
structure Rp (K : PySem.W.Frag) (IO : Nat → Option Addr) (F : Addr → Prop) (H : Hp) (σ : St) (ρ : Rho) : Prop where
  dat : ∀ i d, gt ρ i = some (Sl.dat d) → ∃ v, σ[i]? = some (some v) ∧ DV K H (Bad F σ ρ) v d
  own : ∀ i io xs, gt ρ i = some (Sl.own io xs) → ∃ a vs, σ[i]? = some (some (V.ref a)) ∧ H a = some (.lst vs) ∧ DVs K H (Bad F σ ρ) vs xs ∧ ¬ F a ∧ (io = true → IO i = some a)
  inj : ∀ i j io jo xs ys a, gt ρ i = some (Sl.own io xs) → gt ρ j = some (Sl.own jo ys) → σ[i]? = some (some (V.ref a)) → σ[j]? = some (some (V.ref a)) → i = j
  fdom : ∀ a, F a → H a ≠ none
  len : ρ.length = σ.length
/-- from one state to a later one -/
structure Nx (σ : St) (ρ : Rho) (H : Hp) (σ' : St) (ρ' : Rho) (H' : Hp) : Prop where
  keep : ∀ a o, H a = some o → ¬ Own σ ρ a → H' a = some o
  sub : ∀ a, Own σ' ρ' a → Own σ ρ a ∨ H a = none
  there : ∀ a o, H a = some o → ∃ o', H' a = some o'
section
variable {K : PySem.W.Frag} {IO : Nat → Option Addr} {F G : Addr → Prop} {H H1 H2 : Hp} {σ σ1 σ2 : St} {ρ ρ1 ρ2 : Rho}
theorem Nx.refl : Nx σ ρ H σ ρ H := ⟨fun _ _ h _ => h, fun _ h => .inl h, fun _ o h => ⟨o, h⟩⟩
theorem Nx.trans (a : Nx σ ρ H σ1 ρ1 H1) (b : Nx σ1 ρ1 H1 σ2 ρ2 H2) : Nx σ ρ H σ2 ρ2 H2 := by
  refine ⟨fun x o h n => b.keep x o (a.keep x o h n) fun q => ?_, fun x q => ?_, fun x o h => ?_⟩
  · rcases a.sub x q with z | z
    · exact n z
    · rw [h] at z; cases z
  · rcases b.sub x q with z | z
    · exact a.sub x z
    · refine .inr ?_
      cases e : H x with
      | none => rfl
      | some o => obtain ⟨o', e'⟩ := a.there x o e; rw [z] at e'; cases e'
  · obtain ⟨o1, h1⟩ := a.there x o h
    exact b.there x o1 h1
/-- data and what is foreign stay -/
theorem Nx.bad (n : Nx σ ρ H σ1 ρ1 H1) : ∀ a o, H a = some o → ¬ Bad F σ ρ a → H1 a = some o ∧ ¬ Bad F σ1 ρ1 a := fun a o h nb =>
  ⟨n.keep a o h fun q => nb (.inr q), fun q => by
    rcases q with q | q
    · exact nb (.inl q)
    · rcases n.sub a q with z | z
      · exact nb (.inr z)
      · rw [h] at z; cases z⟩
theorem Nx.dv (n : Nx σ ρ H σ1 ρ1 H1) {v : V} {d : D} (h : DV K H (Bad F σ ρ) v d) : DV K H1 (Bad F σ1 ρ1) v d := h.mono n.bad
theorem Nx.dvs (n : Nx σ ρ H σ1 ρ1 H1) {v : List V} {d : List D} (h : DVs K H (Bad F σ ρ) v d) : DVs K H1 (Bad F σ1 ρ1) v d := h.mono n.bad
theorem Nx.fresh (n : Nx σ ρ H σ1 ρ1 H1) {a : Addr} (h : H1 a = Option.none) : H a = Option.none := by
  cases e : H a with
  | none => rfl
  | some o => obtain ⟨o', e'⟩ := n.there a o e; rw [h] at e'; cases e'
theorem Rp.own_dom (r : Rp K IO F H σ ρ) {a : Addr} (h : Own σ ρ a) : ∃ vs, H a = some (.lst vs) := by
  obtain ⟨i, io, xs, h1, h2⟩ := h
  obtain ⟨b, vs, e1, e2, _⟩ := r.own i io xs h1
  rw [h2] at e1; cases e1
  exact ⟨vs, e2⟩
theorem Rp.bad_dom (r : Rp K IO F H σ ρ) {a : Addr} (h : Bad F σ ρ a) : H a ≠ Option.none := by
  rcases h with h | h
  · exact r.fdom a h
  · obtain ⟨vs, e⟩ := r.own_dom h
    rw [e]; simp
theorem Rp.own_ne (r : Rp K IO F H σ ρ) {a : Addr} (h : Own σ ρ a) : ¬ F a := by
  obtain ⟨i, io, xs, h1, h2⟩ := h
  obtain ⟨b, vs, e1, _, _, e2, _⟩ := r.own i io xs h1
  rw [h2] at e1; cases e1
  exact e2
/-- fewer foreign addresses -/
theorem Rp.less (r : Rp K IO F H σ ρ) (h : ∀ a, G a → F a) : Rp K IO G H σ ρ := by
  have k : ∀ a o, H a = some o → ¬ Bad F σ ρ a → H a = some o ∧ ¬ Bad G σ ρ a := fun a o e n => ⟨e, fun q => n (q.imp (h a) id)⟩
  refine ⟨fun i d e => ?_, fun i io xs e => ?_, r.inj, fun a q => r.fdom a (h a q), r.len⟩
  · obtain ⟨v, h1, h2⟩ := r.dat i d e
    exact ⟨v, h1, h2.mono k⟩
  · obtain ⟨a, vs, h1, h2, h3, h4, h5⟩ := r.own i io xs e
    exact ⟨a, vs, h1, h2, h3.mono k, fun q => h4 (h a q), h5⟩
end
end DL
/-! DL2: results, readings at the level of data. -/
namespace DL
open PySem PySem.Spec PyProof.Rows L2
inductive Rs where
  | dat (d : D) | own (xs : List D) | ref (i : Nat)
/-- the address of a list that is held by the result alone -/
def fr (v : V) (r : Rs) (a : Addr) : Prop := match r with
  | .own _ => v = .ref a
  | _ => False
def FF (F : Addr → Prop) (v : V) (r : Rs) (a : Addr) : Prop := F a ∨ fr v r a
def R1 (K : PySem.W.Frag) (H : Hp) (bad : Addr → Prop) (σ : St) (v : V) : Rs → Prop
  | .dat d => DV K H bad v d
  | .own xs => ∃ a vs, v = .ref a ∧ H a = some (.lst vs) ∧ DVs K H bad vs xs
  | .ref i => σ[i]? = some (some v)
structure RsOk (K : PySem.W.Frag) (IO : Nat → Option Addr) (F : Addr → Prop) (H : Hp) (σ : St) (ρ : Rho) (v : V) (r : Rs) : Prop where
  rp : Rp K IO (FF F v r) H σ ρ
  r1 : R1 K H (Bad (FF F v r) σ ρ) σ v r
  nf : ∀ a, fr v r a → ¬ F a
structure Xn where
  cls : Str
  arg : Option D
/-- what is fixed while a body runs -/
structure Cf where
  K : PySem.W.Frag
  xt : Str → Option (Addr × Str)
  IO : Nat → Option Addr
  Eh : XK
def XnOk (K : PySem.W.Frag) (xt : Str → Option (Addr × Str)) (F : Addr → Prop) (H : Hp) (cls : Value) (dx : Option Addr) (x : Xn) : Prop :=
  ∃ C f, xt x.cls = some (C, f) ∧ cls = .ref C ∧ match x.arg with
    | none => dx = none
    | some d => ∃ a v, dx = some a ∧ H a = some (.xd [(f, v)]) ∧ DV K H F v d
/-- exceptions that are allowed reach what is wanted -/
def XC (c : Cf) (F : Addr → Prop) (E : Xn → Prop) (σ : St) (ρ : Rho) (H : Hp) : Prop :=
  ∀ cls dx H' x, (∀ a o, H a = some o → ¬ Own σ ρ a → H' a = some o) → XnOk c.K c.xt F H' cls dx x → E x → c.Eh cls dx H'
abbrev DTE := (Xn → Prop) → Rho → (Rs → Rho → Prop) → Prop
abbrev DTT := (Xn → Prop) → Rho → (Bool → Rho → Prop) → Prop
abbrev DTR := (Xn → Prop) → Rho → (List Rs → Rho → Prop) → Prop
def tD (c : Cf) (w : DTE) : TE := fun σ H Q => ∃ F ρ E Qd, Rp c.K c.IO F H σ ρ ∧ w E ρ Qd ∧ XC c F E σ ρ H ∧
  ∀ v H' ρ' r, Nx σ ρ H σ ρ' H' → RsOk c.K c.IO F H' σ ρ' v r → (∀ a, fr v r a → H a = none) → Qd r ρ' → Q v H'
def tDT (c : Cf) (w : DTT) : TT := fun σ H Q => ∃ F ρ E Qd, Rp c.K c.IO F H σ ρ ∧ w E ρ Qd ∧ XC c F E σ ρ H ∧
  ∀ b H' ρ', Nx σ ρ H σ ρ' H' → Rp c.K c.IO F H' σ ρ' → Qd b ρ' → Q b H'
inductive R1s (K : PySem.W.Frag) (H : Hp) (bad : Addr → Prop) (σ : St) : List V → List Rs → Prop
  | nil : R1s K H bad σ [] []
  | cons {v r vs rs} : R1 K H bad σ v r → (∀ xs, r ≠ .own xs) → R1s K H bad σ vs rs → R1s K H bad σ (v :: vs) (r :: rs)
theorem _root_.L2.PE.imp {X : Cx} {e : Expr} {t t' : TE} (h : PE X e t) (i : ∀ σ H Q, t' σ H Q → t σ H Q) : PE X e t' := ⟨fun pins s σ H Q I q => h.run pins s σ H Q I (i _ _ _ q)⟩
theorem _root_.L2.PT.imp {X : Cx} {e : Expr} {t t' : TT} (h : PT X e t) (i : ∀ σ H Q, t' σ H Q → t σ H Q) : PT X e t' := ⟨fun pins s σ H Q I q => h.run pins s σ H Q I (i _ _ _ q)⟩
theorem _root_.L2.PA.imp {X : Cx} {e : List Expr} {t t' : TA} (h : PA X e t) (i : ∀ σ H Q, t' σ H Q → t σ H Q) : PA X e t' := ⟨fun pos pins s σ H Q I q => h.run pos pins s σ H Q I (i _ _ _ q)⟩
theorem _root_.L2.PS.imp {X : Cx} {e : Stmt} {t t' : TS} (h : PS X e t) (i : ∀ D σ H, t' D σ H → t D σ H) : PS X e t' := ⟨fun pins s σ H D I q => h.run pins s σ H D I (i _ _ _ q)⟩
theorem _root_.L2.PSs.imp {X : Cx} {e : List Stmt} {t t' : TS} (h : PSs X e t) (i : ∀ D σ H, t' D σ H → t D σ H) : PSs X e t' := ⟨fun pins s σ H D I q => h.run pins s σ H D I (i _ _ _ q)⟩
section
variable {c : Cf} {K : PySem.W.Frag} {IO : Nat → Option Addr} {F G : Addr → Prop} {H H1 H2 : Hp} {σ σ1 σ2 : St} {ρ ρ1 ρ2 : Rho} {E : Xn → Prop} {v : V} {r : Rs}
theorem XC.nx (h : XC c F E σ ρ H) (n : Nx σ ρ H σ1 ρ1 H1) : XC c F E σ1 ρ1 H1 := fun cls dx H' x k ok e =>
  h cls dx H' x (fun a o q nq => k a o (n.keep a o q nq) fun z => by
    rcases n.sub a z with y | y
    · exact nq y
    · rw [q] at y; cases y) ok e
theorem FF_dat {d : D} : FF F v (.dat d) = F := by funext a; simp [FF, fr]
theorem FF_ref {i : Nat} : FF F v (.ref i) = F := by funext a; simp [FF, fr]
theorem RsOk.ofDat {d : D} (p : Rp K IO F H σ ρ) (q : DV K H (Bad F σ ρ) v d) : RsOk K IO F H σ ρ v (.dat d) :=
  ⟨by rw [FF_dat]; exact p, by rw [FF_dat]; exact q, fun _ z => z.elim⟩
theorem RsOk.ofRef {i : Nat} (p : Rp K IO F H σ ρ) (q : σ[i]? = some (some v)) : RsOk K IO F H σ ρ v (.ref i) :=
  ⟨by rw [FF_ref]; exact p, q, fun _ z => z.elim⟩
/-- a fresh list seen as a datum -/
def rd : Rs → Rs
  | .own xs => .dat (.list xs)
  | r => r
theorem bad_less {a : Addr} (h : Bad F σ ρ a) : Bad (FF F v r) σ ρ a := h.imp .inl id
theorem RsOk.rp' (h : RsOk K IO F H σ ρ v r) : Rp K IO F H σ ρ := h.rp.less fun a q => .inl q
theorem RsOk.r1' (h : RsOk K IO F H σ ρ v r) : R1 K H (Bad F σ ρ) σ v (rd r) := by
  have k : ∀ a o, H a = some o → ¬ Bad (FF F v r) σ ρ a → H a = some o ∧ ¬ Bad F σ ρ a := fun a o e n => ⟨e, fun q => n (bad_less q)⟩
  cases r with
  | dat d => have := h.r1; exact DV.mono k _ _ this
  | ref i => exact h.r1
  | own xs =>
    obtain ⟨a, vs, e1, e2, e3⟩ := h.r1
    subst e1
    refine .lst (.inl ⟨.inl e2, fun q => ?_⟩) (DVs.mono k _ _ e3)
    rcases q with q | q
    · exact h.nf a rfl q
    · exact h.rp.own_ne q (.inr rfl)
theorem rd_ne (xs : List D) : rd r ≠ .own xs := by cases r <;> simp [rd]
/-- a later state -/
theorem R1.nx {r : Rs} (h : R1 K H (Bad F σ ρ) σ v r) (hn : ∀ xs, r ≠ .own xs) (n : Nx σ ρ H σ ρ1 H1) : R1 K H1 (Bad F σ ρ1) σ v r := by
  cases r with
  | dat d => exact n.dv h
  | ref i => exact h
  | own xs => exact (hn xs rfl).elim
theorem R1s.nx {vs : List V} {rs : List Rs} (h : R1s K H (Bad F σ ρ) σ vs rs) (n : Nx σ ρ H σ ρ1 H1) : R1s K H1 (Bad F σ ρ1) σ vs rs := by
  induction h with
  | nil => exact .nil
  | cons a b _ ih => exact .cons (a.nx b n) b ih
/-! ### the content of a result -/
def deref (ρ : Rho) : Rs → Option D
  | .dat d => some d
  | .own xs => some (.list xs)
  | .ref i => match gt ρ i with
    | some (.dat d) => some d
    | some (.own _ xs) => some (.list xs)
    | none => none
/-- what may be read of a datum: a list that is owned may be read, too -/
inductive DR (K : PySem.W.Frag) (H : Hp) (bad : Addr → Prop) : V → D → Prop
  | dv {v : V} {d : D} : DV K H bad v d → DR K H bad v d
  | own {a : Addr} {vs : List V} {xs : List D} : H a = some (.lst vs) → DVs K H bad vs xs → DR K H bad (.ref a) (.list xs)
theorem deref_ok {d : D} (p : Rp K IO F H σ ρ) (h : R1 K H (Bad F σ ρ) σ v r) (e : deref ρ r = some d) : DR K H (Bad F σ ρ) v d := by
  cases r with
  | dat x => cases e; exact .dv h
  | own xs =>
    cases e
    obtain ⟨a, vs, rfl, e2, e3⟩ := h
    exact .own e2 e3
  | ref i =>
    have h' : σ[i]? = some (some v) := h
    simp only [deref] at e
    split at e
    · rename_i x q
      cases e
      obtain ⟨v', e1, e2⟩ := p.dat i _ q
      rw [h'] at e1; cases e1
      exact .dv e2
    · rename_i b xs q
      cases e
      obtain ⟨a, vs, e1, e2, e3, _⟩ := p.own i _ _ q
      rw [h'] at e1; cases e1
      exact .own e2 e3
    · cases e
theorem DR.dp {bad : Addr → Prop} {d : D} (h : DR K H bad v d) : Dp K H v d := by
  cases h with
  | dv h => exact h.dp
  | own a b => exact .lst (.inl (.inl a)) b.dp
theorem DR.list {bad : Addr → Prop} {xs : List D} (h : DR K H bad v (.list xs)) : ∃ a vs, v = .ref a ∧ SqL K H a vs ∧ DVs K H bad vs xs := by
  cases h with
  | dv h => cases h with | lst a b => exact ⟨_, _, rfl, a.sq, b⟩
  | own a b => exact ⟨_, _, rfl, .inl (.inl a), b⟩
theorem DR.tup {bad : Addr → Prop} {xs : List D} (h : DR K H bad v (.tuple xs)) : ∃ a vs, v = .ref a ∧ SqT K H a vs ∧ DVs K H bad vs xs := by
  cases h with
  | dv h => cases h with | tup a b => exact ⟨_, _, rfl, a.sq, b⟩
theorem DR.int {bad : Addr → Prop} {i : Int} (h : DR K H bad v (.int i)) : v = .int i := by cases h with | dv h => cases h; rfl
theorem DR.str {bad : Addr → Prop} {x : Str} (h : DR K H bad v (.str x)) : v = .str x := by cases h with | dv h => cases h; rfl
theorem DR.bl {bad : Addr → Prop} {b : Bool} (h : DR K H bad v (.bool b)) : v = .bl b := by cases h with | dv h => cases h; rfl
theorem DR.non {bad : Addr → Prop} (h : DR K H bad v .none) : v = .non := by cases h with | dv h => cases h; rfl
/-! ### escaping: a list becomes immutable -/
def esc : Rs → Rho → (D → Rho → Prop) → Prop
  | .dat d, ρ, k => k d ρ
  | .own xs, ρ, k => k (.list xs) ρ
  | .ref i, ρ, k => match gt ρ i with
    | some (.dat d) => k d ρ
    | some (.own false xs) => k (.list xs) (ρ.set i (some (.dat (.list xs))))
    | _ => False
theorem own_set_less {i : Nat} {d : D} {a : Addr} (h : Own σ (ρ.set i (some (.dat d))) a) : Own σ ρ a := by
  obtain ⟨j, io, xs, h1, h2⟩ := h
  refine ⟨j, io, xs, ?_, h2⟩
  by_cases hj : j = i
  · subst hj
    have hl := gt_lt h1
    rw [List.length_set] at hl
    rw [gt_set_self hl] at h1
    cases h1
  · rwa [gt_set_ne hj] at h1
theorem freeze {i : Nat} {xs : List D} (p : Rp K IO F H σ ρ) (e : gt ρ i = some (.own false xs)) (hv : σ[i]? = some (some v)) :
    Rp K IO F H σ (ρ.set i (some (.dat (.list xs)))) ∧ DV K H (Bad F σ (ρ.set i (some (.dat (.list xs))))) v (.list xs) ∧ Nx σ ρ H σ (ρ.set i (some (.dat (.list xs)))) H := by
  have n : Nx σ ρ H σ (ρ.set i (some (.dat (.list xs)))) H := ⟨fun _ _ h _ => h, fun a h => .inl (own_set_less h), fun _ o h => ⟨o, h⟩⟩
  obtain ⟨a, vs, e1, e2, e3, e4, _⟩ := p.own i _ _ e
  rw [hv] at e1; cases e1
  have no : ¬ Bad F σ (ρ.set i (some (.dat (.list xs)))) a := by
    rintro (q | ⟨j, io, ys, h1, h2⟩)
    · exact e4 q
    · by_cases hj : j = i
      · subst hj
        rw [gt_set_self (gt_lt e)] at h1
        cases h1
      · rw [gt_set_ne hj] at h1
        exact hj (p.inj j i _ _ _ _ a h1 e h2 hv)
  have dv : DV K H (Bad F σ (ρ.set i (some (.dat (.list xs))))) (.ref a) (.list xs) := .lst (.inl ⟨.inl e2, no⟩) (n.dvs e3)
  refine ⟨⟨fun j d q => ?_, fun j io ys q => ?_, fun j k io jo ys zs b h1 h2 h3 h4 => ?_, p.fdom, by simpa using p.len⟩, dv, n⟩
  · by_cases hj : j = i
    · subst hj
      rw [gt_set_self (gt_lt e)] at q
      cases q
      exact ⟨_, hv, dv⟩
    · rw [gt_set_ne hj] at q
      obtain ⟨w, h1, h2⟩ := p.dat j d q
      exact ⟨w, h1, n.dv h2⟩
  · have hj : j ≠ i := by
      rintro rfl
      rw [gt_set_self (gt_lt e)] at q
      cases q
    rw [gt_set_ne hj] at q
    obtain ⟨b, ws, h1, h2, h3, h4, h5⟩ := p.own j _ _ q
    exact ⟨b, ws, h1, h2, n.dvs h3, h4, h5⟩
  · have hj : j ≠ i := by
      rintro rfl
      rw [gt_set_self (gt_lt e)] at h1
      cases h1
    have hk : k ≠ i := by
      rintro rfl
      rw [gt_set_self (gt_lt e)] at h2
      cases h2
    rw [gt_set_ne hj] at h1
    rw [gt_set_ne hk] at h2
    exact p.inj j k _ _ _ _ b h1 h2 h3 h4
theorem esc_ok {k : D → Rho → Prop} (h : RsOk K IO F H σ ρ v r) (e : esc r ρ k) :
    ∃ d ρ', k d ρ' ∧ Rp K IO F H σ ρ' ∧ DV K H (Bad F σ ρ') v d ∧ Nx σ ρ H σ ρ' H := by
  cases r with
  | dat d => exact ⟨d, ρ, e, h.rp', h.r1', Nx.refl⟩
  | own xs => exact ⟨_, ρ, e, h.rp', h.r1', Nx.refl⟩
  | ref i =>
    have h' : σ[i]? = some (some v) := h.r1
    have p := h.rp'
    simp only [esc] at e
    split at e
    · rename_i d q
      obtain ⟨v', e1, e2⟩ := p.dat i _ q
      rw [h'] at e1; cases e1
      exact ⟨d, ρ, e, p, e2, Nx.refl⟩
    · rename_i xs q
      obtain ⟨f1, f2, f3⟩ := freeze p q h'
      exact ⟨_, _, e, f1, f2, f3⟩
    · exact e.elim
end
end DL
/-! DL3: a small syntax and what it means at the level of data. -/
namespace DL
open PySem PySem.Spec PyProof.Rows L2
inductive O2 where | add | sub | mul | fdiv | mod | pow
  deriving DecidableEq
inductive C2 where | lt | le | gt | ge | eq | ne | isin | notin
  deriving DecidableEq
inductive Bi where | len | tuple | list | abs | int | divmod | gcd | isInt | isBool | isTuple | repr | sum | sorted | all | any | max | min | str | isStr | isList
  deriving DecidableEq
/-- a target of names -/
inductive Tn where
  | name (i : Nat)
  | tup (ts : List Tn)
inductive Ex where
  | lit (d : D)
  | con (x : String) (d : D)
  | var (i : Nat)
  | op2 (o : O2) (a b : Ex)
  | repL (es : List Ex) (n : Ex)
  | cmp (o : C2) (a b : Ex)
  | isN (a : Ex) | notN (a : Ex)
  | chain (o o' : C2) (a b c : Ex)
  | neg (a : Ex) | not (a : Ex)
  | and (a b : Ex) | or (a b : Ex)
  | ife (c a b : Ex)
  | tup (es : List Ex) | lst (es : List Ex)
  | idx (a b : Ex)
  | slc (a : Ex) (lo hi : Option Ex)
  | call (f : String) (es : List Ex)
  | callK (f : String) (ks : List String) (es : List Ex)
  | callIo (f : String) (a : Ex) (es : List Ex)
  | bi (b : Bi) (es : List Ex)
  | comp (elt : Ex) (tg : Tn) (it : Ex) (ifs : Option Ex) (own : List Nat)
  | listR (es : List Ex)
  | listZ (a b : Ex)
  | range (es : List Ex) | enum (a : Ex) | zip (a b : Ex) | rev (a : Ex)
  | pop (i : Nat) (e : Option Ex)
  | index (a b : Ex) | count (a b : Ex)
/-- a target of an assignment -/
inductive Ta where
  | name (i : Nat)
  | sub (i : Nat) (ix : Ex)
  | tup (ts : List Ta)
inductive Sm where
  | asg (t : Ta) (e : Ex)
  | par (ts : List Ta) (es : List Ex)
  | aug (i : Nat) (o : O2) (e : Ex)
  | expr (e : Ex)
  | app (i : Nat) (e : Ex) | ext (i : Nat) (e : Ex) | ins (i : Nat) (a b : Ex)
  | ret (e : Ex) | retN
  | ite (c : Ex) (a b : List Sm)
  | for_ (t : Tn) (it : Ex) (b : List Sm)
  | while_ (c : Ex) (b : List Sm)
  | raise_ (x : String) (e : Option Ex)
  | brk | cont | pass
/-! ### operations -/
def MulOk (i j : Int) : Prop := (Builtin.Int.intBits i : Int) + (Builtin.Int.intBits j : Int) ≤ 134217728
def DivOk (j : Int) : Prop := 0 < j ∧ j.natAbs.log2 < 9000
def LenOk (n : Nat) : Prop := n ≤ sizeLine
abbrev KR := Rs → Prop
def op2D : O2 → D → D → KR → Prop
  | .add, .int i, .int j, k => k (.dat (.int (i + j)))
  | .add, .list xs, .list ys, k => LenOk (xs.length + ys.length) ∧ k (.own (xs ++ ys))
  | .add, .tuple xs, .tuple ys, k => LenOk (xs.length + ys.length) ∧ k (.dat (.tuple (xs ++ ys)))
  | .add, .str x, .str y, k => LenOk (x.length + y.length) ∧ k (.dat (.str (x ++ y)))
  | .sub, .int i, .int j, k => k (.dat (.int (i - j)))
  | .mul, .int i, .int j, k => MulOk i j ∧ k (.dat (.int (i * j)))
  | .mul, .tuple xs, .int j, k => 1 ≤ j ∧ j ≤ 1000 ∧ xs ≠ [] ∧ xs.length ≤ 1000 ∧ k (.dat (.tuple (List.replicate j.toNat xs).flatten))
  | .fdiv, .int i, .int j, k => DivOk j ∧ k (.dat (.int (i / j)))
  | .mod, .int i, .int j, k => 0 < j ∧ k (.dat (.int (i % j)))
  | .pow, .int i, .int j, k => (0 ≤ j ∧ j ≤ 1000000 ∧ i.natAbs < 2 ^ 64) ∧ k (.dat (.int (i ^ j.toNat)))
  | _, _, _, _ => False
/-- whether a datum equals one of some -/
def inD (x : D) (xs : List D) : Bool := xs.any fun y => PyData.eqv y x
def shp (d : D) : Prop := SeqAt.shaped d = true
def cmpD : C2 → D → D → (Bool → Prop) → Prop
  | .lt, .int i, .int j, k => k (decide (i < j))
  | .le, .int i, .int j, k => k (decide (i ≤ j))
  | .gt, .int i, .int j, k => k (decide (j < i))
  | .ge, .int i, .int j, k => k (decide (j ≤ i))
  | .eq, x, y, k => shp x ∧ shp y ∧ k (PyData.eqv x y)
  | .ne, x, y, k => shp x ∧ shp y ∧ k (!PyData.eqv x y)
  | .isin, x, .list ys, k => shp x ∧ shp (.list ys) ∧ k (inD x ys)
  | .isin, x, .tuple ys, k => shp x ∧ shp (.tuple ys) ∧ k (inD x ys)
  | .notin, x, .list ys, k => shp x ∧ shp (.list ys) ∧ k (!inD x ys)
  | .notin, x, .tuple ys, k => shp x ∧ shp (.tuple ys) ∧ k (!inD x ys)
  | _, _, _, _ => False
def isNone : D → Bool
  | .none => true
  | _ => false
def idxD : D → D → (D → Prop) → Prop
  | .list xs, .int i, k => match atI xs i with
    | some x => k x
    | none => False
  | .tuple xs, .int i, k => match atI xs i with
    | some x => k x
    | none => False
  | _, _, _ => False
def cutD (xs : List D) (lo hi : Option Int) : List D := (xs.drop (HT.sIx xs.length 0 lo)).take (HT.sIx xs.length xs.length hi - HT.sIx xs.length 0 lo)
def slcD : D → Option Int → Option Int → KR → Prop
  | .list xs, lo, hi, k => k (.own (cutD xs lo hi))
  | .tuple xs, lo, hi, k => k (.dat (.tuple (cutD xs lo hi)))
  | _, _, _, _ => False
def isIntD : D → Bool
  | .int _ | .bool _ => true
  | _ => false
def isBoolD : D → Bool
  | .bool _ => true
  | _ => false
def isTupleD : D → Bool
  | .tuple _ => true
  | _ => false
def isListD : D → Bool
  | .list _ => true
  | _ => false
def isStrD : D → Bool
  | .str _ => true
  | _ => false
/-- some ints -/
def intsD : List D → Option (List Int)
  | [] => some []
  | .int i :: r => (intsD r).map (i :: ·)
  | _ :: _ => none
def boolsD : List D → Option (List Bool)
  | [] => some []
  | .bool i :: r => (boolsD r).map (i :: ·)
  | _ :: _ => none
def ReprOk (d : D) : Prop := d.showable = true ∧ d.depth ≤ 60 ∧ d.shown.length ≤ sizeLine
def bLen : List D → KR → Prop
  | [.list xs], k => k (.dat (.int xs.length))
  | [.tuple xs], k => k (.dat (.int xs.length))
  | _, _ => False
def bTuple : List D → KR → Prop
  | [.list xs], k => k (.dat (.tuple xs))
  | [.tuple xs], k => k (.dat (.tuple xs))
  | _, _ => False
def bList : List D → KR → Prop
  | [.list xs], k => k (.own xs)
  | [.tuple xs], k => k (.own xs)
  | _, _ => False
def bAbs : List D → KR → Prop
  | [.int i], k => k (.dat (.int (if i < 0 then -i else i)))
  | _, _ => False
def bInt : List D → KR → Prop
  | [.int i], k => k (.dat (.int i))
  | [.bool b], k => k (.dat (.int (if b then 1 else 0)))
  | _, _ => False
def bDivmod : List D → KR → Prop
  | [.int i, .int j], k => (0 < j ∧ j < 1073741824) ∧ k (.dat (.tuple [.int (i / j), .int (i % j)]))
  | _, _ => False
def bGcd : List D → KR → Prop
  | [.int i, .int j], k => k (.dat (.int ((Nat.gcd i.natAbs j.natAbs : Nat) : Int)))
  | _, _ => False
def bIs (f : D → Bool) : List D → KR → Prop
  | [d], k => k (.dat (.bool (f d)))
  | _, _ => False
def bRepr : List D → KR → Prop
  | [d], k => ReprOk d ∧ k (.dat (.str d.shown))
  | _, _ => False
def bInts (g : List Int → (D → Prop) → Prop) : List D → KR → Prop
  | [.list xs], k => match intsD xs with
    | some ns => g ns fun d => k (.dat d)
    | none => False
  | _, _ => False
def bBools (f : List Bool → Bool) : List D → KR → Prop
  | [.list xs], k => match boolsD xs with
    | some bs => k (.dat (.bool (f bs)))
    | none => False
  | _, _ => False
def bMax : List D → KR → Prop
  | [.int i, .int j], k => k (.dat (.int (if j > i then j else i)))
  | [.list xs], k => match intsD xs with
    | some ns => ns ≠ [] ∧ ∀ m, m ∈ ns → (∀ y, y ∈ ns → y ≤ m) → k (.dat (.int m))
    | none => False
  | _, _ => False
def bMin : List D → KR → Prop
  | [.int i, .int j], k => k (.dat (.int (if j < i then j else i)))
  | [.list xs], k => match intsD xs with
    | some ns => ns ≠ [] ∧ ∀ m, m ∈ ns → (∀ y, y ∈ ns → m ≤ y) → k (.dat (.int m))
    | none => False
  | _, _ => False
/-- sorted: some arrangement by the order -/
def bSorted : List D → KR → Prop
  | [.list xs], k => match intsD xs with
    | some ns => ns.length < 64 ∧ ∀ ns' : List Int, ns'.Perm ns → ns'.Pairwise (· ≤ ·) → k (.own (ns'.map .int))
    | none => ∃ (d : Nat) (B : Int), 1 ≤ d ∧ xs.length < 64 ∧ (∀ x ∈ xs, ∃ ns : List Int, x = .tuple (ns.map .int) ∧ ns.length = d ∧ TS.Bd B ns) ∧
      ∀ ys : List D, ys.Perm xs → ys.Pairwise (fun x y => ∀ n m : List Int, x = .tuple (n.map .int) → y = .tuple (m.map .int) → TS.code B n ≤ TS.code B m) → k (.own ys)
  | _, _ => False
def biD : Bi → List D → KR → Prop
  | .len => bLen
  | .tuple => bTuple
  | .list => bList
  | .abs => bAbs
  | .int => bInt
  | .divmod => bDivmod
  | .gcd => bGcd
  | .isInt => bIs isIntD
  | .isBool => bIs isBoolD
  | .isTuple => bIs isTupleD
  | .isList => bIs isListD
  | .isStr => bIs isStrD
  | .repr => bRepr
  | .sum => bInts fun ns k => k (.int ns.sum)
  | .all => bBools fun bs => bs.all id
  | .any => bBools fun bs => bs.any id
  | .max => bMax
  | .min => bMin
  | .sorted => bSorted
  | .str => fun _ _ => False
/-! ### programs -/
/-- what a def promises: its arguments' slots; the answer with what the lists of the caller hold then; an exception -/
abbrev DSp := List Sl → (Rs → List (List D) → Prop) → (Xn → Prop) → Prop
abbrev Gam := String → DSp
abbrev DTI := (Xn → Prop) → Rho → (List D → (Rho → Prop) → Rho → Prop) → Prop
/-- as a value, as a test, as what a comprehension walks, as what a for walks -/
structure W4 where
  e : DTE
  t : DTT
  i : DTI
  f : DTI
def asT (w : DTE) : DTT := fun E ρ Q => w E ρ fun r ρ1 => match r with
  | .dat (.bool b) => Q b ρ1
  | _ => False
def seqD : D → Option (List D)
  | .list xs => some xs
  | .tuple xs => some xs
  | _ => none
def chk (r : Rs) (xs : List D) : Rho → Prop := match r with
  | .ref i => fun ρ => deref ρ (.ref i) = some (.list xs)
  | _ => fun _ => True
def asI (w : DTE) : DTI := fun E ρ k => w E ρ fun r ρ1 => match deref ρ1 r with
  | some (.list xs) => k xs (chk r xs) ρ1
  | some (.tuple xs) => match r with
    | .dat _ => k xs (fun _ => True) ρ1
    | _ => False
  | _ => False
def asF (w : DTE) : DTI := fun E ρ k => w E ρ fun r ρ1 => esc r ρ1 fun d ρ2 => match seqD d with
    | some xs => k xs (fun _ => True) ρ2
    | none => False
def noI : DTI := fun _ _ _ => False
/-- from the value alone -/
def W4.of (w : DTE) : W4 := ⟨w, asT w, asI w, asF w⟩
/-- arguments from the left -/
def eL : List W4 → DTR
  | [] => fun _ ρ Q => Q [] ρ
  | w :: ws => fun E ρ Q => w.e E ρ fun r ρ1 => eL ws E ρ1 fun rs ρ2 => Q (r :: rs) ρ2
def escs : List Rs → Rho → (List D → Rho → Prop) → Prop
  | [], ρ, k => k [] ρ
  | r :: rs, ρ, k => esc r ρ fun d ρ1 => escs rs ρ1 fun ds ρ2 => k (d :: ds) ρ2
def derefs (ρ : Rho) : List Rs → Option (List D)
  | [] => some []
  | r :: rs => match deref ρ r, derefs ρ rs with
    | some d, some ds => some (d :: ds)
    | _, _ => none
def with2 (ρ : Rho) (r s : Rs) (k : D → D → Prop) : Prop := match deref ρ r, deref ρ s with
  | some x, some y => k x y
  | _, _ => False
def with1 (ρ : Rho) (r : Rs) (k : D → Prop) : Prop := match deref ρ r with
  | some x => k x
  | _ => False
def withs (ρ : Rho) (rs : List Rs) (k : List D → Prop) : Prop := match derefs ρ rs with
  | some x => k x
  | _ => False
/-- names of a target -/
def asnN : Tn → D → Rho → (Rho → Prop) → Prop
  | .name i, d, ρ, k => match gt ρ i with
    | some (.own true _) => False
    | _ => k (ρ.set i (some (.dat d)))
  | .tup [.name i, .name j], .tuple [a, b], ρ, k => match gt ρ i, gt ρ j with
    | some (.own true _), _ => False
    | _, some (.own true _) => False
    | _, _ => k ((ρ.set i (some (.dat a))).set j (some (.dat b)))
  | .tup [.name i, .name j, .name l], .tuple [a, b, c], ρ, k => match gt ρ i, gt ρ j, gt ρ l with
    | some (.own true _), _, _ => False
    | _, some (.own true _), _ => False
    | _, _, some (.own true _) => False
    | _, _, _ => k (((ρ.set i (some (.dat a))).set j (some (.dat b))).set l (some (.dat c)))
  | _, _, _, _ => False
def wipeR (ρ : Rho) : List Nat → Rho
  | [] => ρ
  | i :: is => (wipeR ρ is).set i none
/-- none of the places holds an owned list -/
def noOwn (ρ : Rho) (is : List Nat) : Prop := ∀ i ∈ is, ∀ b xs, gt ρ i ≠ some (.own b xs)
def restR (ρ0 ρ : Rho) : List Nat → Rho
  | [] => ρ
  | i :: is => (restR ρ0 ρ is).set i ((gt ρ0 i))
def compL (g : D → Rho → (Rho → Prop) → Prop) (tt : DTT) (te : DTE) (ck : Rho → Prop) (own : List Nat) (Q : List D → Rho → Prop) : List D → List D → Rho → Prop
  | [], acc, ρ => ck ρ ∧ Q acc ρ
  | x :: xs, acc, ρ => ck ρ ∧ g x ρ fun ρ1 => tt (fun _ => False) ρ1 fun b ρ2 =>
      if b = true then te (fun _ => False) ρ2 fun r ρ3 => esc r ρ3 fun d ρ4 => compL g tt te ck own Q xs (acc ++ [d]) (wipeR ρ4 own)
      else compL g tt te ck own Q xs acc (wipeR ρ2 own)
def optI (w : Option W4) : (Xn → Prop) → Rho → (Option Int → Rho → Prop) → Prop := match w with
  | none => fun _ ρ k => k none ρ
  | some w => fun E ρ k => w.e E ρ fun r ρ1 => match r with
    | .dat (.int i) => k (some i) ρ1
    | _ => False
def rngD : List D → (List D → Prop) → Prop
  | [.int n], k => (-(2 ^ 62) ≤ n ∧ n < 2 ^ 62) ∧ LenOk n.toNat ∧ k ((List.range n.toNat).map fun (i : Nat) => PyData.int i)
  | [.int a, .int b], k => (-(2 ^ 62) ≤ a ∧ a < 2 ^ 62 ∧ -(2 ^ 62) ≤ b ∧ b < 2 ^ 62) ∧ LenOk (b - a).toNat ∧ k ((List.range (b - a).toNat).map fun (i : Nat) => PyData.int (a + i))
  | _, _ => False
def enumD (xs : List D) : List D := xs.zipIdx.map fun p => .tuple [.int p.2, p.1]
def zipD (xs ys : List D) : List D := (xs.zip ys).map fun p => .tuple [p.1, p.2]
def callW (sp : DSp) (ws : List W4) : DTE := fun E ρ Q => eL ws E ρ fun rs ρ1 => escs rs ρ1 fun ds ρ2 => sp (ds.map .dat) (fun r _ => Q r ρ2) E
def callIoW (sp : DSp) (w : W4) (ws : List W4) : DTE := fun E ρ Q => eL (w :: ws) E ρ fun rs ρ1 => match rs with
  | [] => False
  | r0 :: rs => escs rs ρ1 fun ds ρ2 => match r0 with
    | .ref i => match gt ρ2 i with
      | some (.own b xs) => sp (.own true xs :: ds.map .dat) (fun r outs => match outs with
          | [ys] => Q r (ρ2.set i (some (.own b ys)))
          | _ => False) E
      | _ => False
    | .own xs => sp (.own true xs :: ds.map .dat) (fun r outs => match outs with
          | [_] => Q r ρ2
          | _ => False) E
    | .dat _ => False
def zipW (wr : DTR) : DTI := fun E ρ k => wr E ρ fun rs ρ1 => escs rs ρ1 fun ds ρ2 => match ds with
  | [d, d'] => match seqD d, seqD d' with
    | some xs, some ys => k (zipD xs ys) (fun _ => True) ρ2
    | _, _ => False
  | _ => False
mutual
def wp (Γ : Gam) : Ex → W4
  | .lit d => .of fun _ ρ Q => Q (.dat d) ρ
  | .con _ d => .of fun _ ρ Q => Q (.dat d) ρ
  | .var i => .of fun _ ρ Q => match gt ρ i with
    | some (.dat d) => Q (.dat d) ρ
    | some (.own _ _) => Q (.ref i) ρ
    | none => False
  | .op2 o a b => .of fun E ρ Q => (wp Γ a).e E ρ fun r ρ1 => (wp Γ b).e E ρ1 fun s ρ2 => with2 ρ2 r s fun x y => op2D o x y fun z => Q z ρ2
  | .repL es n => .of fun E ρ Q => eL (wps Γ es) E ρ fun rs ρ1 => escs rs ρ1 fun ds ρ2 => (wp Γ n).e E ρ2 fun r ρ3 => match r with
    | .dat (.int j) => (-(2 ^ 63) ≤ j ∧ j < 2 ^ 63 ∧ LenOk (ds.length * j.toNat)) ∧ Q (.own (List.replicate j.toNat ds).flatten) ρ3
    | _ => False
  | .cmp o a b => .of fun E ρ Q => (wp Γ a).e E ρ fun r ρ1 => (wp Γ b).e E ρ1 fun s ρ2 => with2 ρ2 r s fun x y => cmpD o x y fun z => Q (.dat (.bool z)) ρ2
  | .isN a => .of fun E ρ Q => (wp Γ a).e E ρ fun r ρ1 => with1 ρ1 r fun x => Q (.dat (.bool (isNone x))) ρ1
  | .notN a => .of fun E ρ Q => (wp Γ a).e E ρ fun r ρ1 => with1 ρ1 r fun x => Q (.dat (.bool (!isNone x))) ρ1
  | .chain o o' a b c => .of fun E ρ Q => (wp Γ a).e E ρ fun r ρ1 => (wp Γ b).e E ρ1 fun s ρ2 => with2 ρ2 r s fun x y => cmpD o x y fun z =>
      if z = true then (wp Γ c).e E ρ2 fun t ρ3 => with2 ρ3 s t fun y' u => cmpD o' y' u fun q => Q (.dat (.bool q)) ρ3
      else Q (.dat (.bool false)) ρ2
  | .neg a => .of fun E ρ Q => (wp Γ a).e E ρ fun r ρ1 => match r with
    | .dat (.int i) => Q (.dat (.int (-i))) ρ1
    | _ => False
  | .not a => ⟨fun E ρ Q => (wp Γ a).e E ρ fun r ρ1 => (match r with
      | .dat (.bool b) => Q (.dat (.bool (!b))) ρ1
      | _ => False), fun E ρ Q => (wp Γ a).t E ρ fun b ρ1 => Q (!b) ρ1, noI, noI⟩
  | .and a b => ⟨fun E ρ Q => (wp Γ a).e E ρ fun r ρ1 => (match r with
      | .dat (.bool c) => if c = true then (wp Γ b).e E ρ1 Q else Q (.dat (.bool false)) ρ1
      | _ => False), fun E ρ Q => (wp Γ a).t E ρ fun c ρ1 => (if c = true then (wp Γ b).t E ρ1 Q else Q false ρ1), noI, noI⟩
  | .or a b => ⟨fun E ρ Q => (wp Γ a).e E ρ fun r ρ1 => (match r with
      | .dat (.bool c) => if c = true then Q (.dat (.bool true)) ρ1 else (wp Γ b).e E ρ1 Q
      | _ => False), fun E ρ Q => (wp Γ a).t E ρ fun c ρ1 => (if c = true then Q true ρ1 else (wp Γ b).t E ρ1 Q), noI, noI⟩
  | .ife c a b => .of fun E ρ Q => (wp Γ c).t E ρ fun q ρ1 => if q = true then (wp Γ a).e E ρ1 Q else (wp Γ b).e E ρ1 Q
  | .tup es => .of fun E ρ Q => eL (wps Γ es) E ρ fun rs ρ1 => escs rs ρ1 fun ds ρ2 => Q (.dat (.tuple ds)) ρ2
  | .lst es => .of fun E ρ Q => eL (wps Γ es) E ρ fun rs ρ1 => escs rs ρ1 fun ds ρ2 => Q (.own ds) ρ2
  | .idx a b => .of fun E ρ Q => (wp Γ a).e E ρ fun r ρ1 => (wp Γ b).e E ρ1 fun s ρ2 => with2 ρ2 r s fun x y => idxD x y fun z => Q (.dat z) ρ2
  | .slc a lo hi => .of fun E ρ Q => (wp Γ a).e E ρ fun r ρ1 => optI (wpo Γ lo) E ρ1 fun i ρ2 => optI (wpo Γ hi) E ρ2 fun j ρ3 => with1 ρ3 r fun x => slcD x i j fun z => Q z ρ3
  | .call f es => .of (callW (Γ f) (wps Γ es))
  | .callK f _ es => .of (callW (Γ f) (wps Γ es))
  | .callIo f a es => .of (callIoW (Γ f) (wp Γ a) (wps Γ es))
  | .bi b es => .of fun E ρ Q => eL (wps Γ es) E ρ fun rs ρ1 => withs ρ1 rs fun ds => biD b ds fun z => Q z ρ1
  | .comp elt tg it ifs own => .of fun E ρ Q => (wp Γ it).i E ρ fun xs ck ρ1 => noOwn ρ1 own ∧
      compL (asnN tg) (match wpo Γ ifs with
        | none => fun _ ρ Q => Q true ρ
        | some w => w.t) (wp Γ elt).e ck own (fun acc ρ2 => Q (.own acc) (restR ρ1 ρ2 own)) xs [] (wipeR ρ1 own)
  | .listR es => .of fun E ρ Q => eL (wps Γ es) E ρ fun rs ρ1 => withs ρ1 rs fun ds => rngD ds fun xs => xs.length ≤ 16777216 ∧ Q (.own xs) ρ1
  | .listZ a b => .of fun E ρ Q => zipW (eL [wp Γ a, wp Γ b]) E ρ fun xs _ ρ1 => Q (.own xs) ρ1
  | .range es => ⟨fun _ _ _ => False, fun _ _ _ => False,
      fun E ρ k => eL (wps Γ es) E ρ fun rs ρ1 => withs ρ1 rs fun ds => rngD ds fun xs => k xs (fun _ => True) ρ1,
      fun E ρ k => eL (wps Γ es) E ρ fun rs ρ1 => withs ρ1 rs fun ds => rngD ds fun xs => k xs (fun _ => True) ρ1⟩
  | .enum a => ⟨fun _ _ _ => False, fun _ _ _ => False,
      fun E ρ k => asI (wp Γ a).e E ρ fun xs ck ρ1 => k (enumD xs) ck ρ1,
      fun E ρ k => asF (wp Γ a).e E ρ fun xs ck ρ1 => k (enumD xs) ck ρ1⟩
  | .zip a b => ⟨fun _ _ _ => False, fun _ _ _ => False,
      zipW (eL [wp Γ a, wp Γ b]), zipW (eL [wp Γ a, wp Γ b])⟩
  | .rev a => ⟨fun _ _ _ => False, fun _ _ _ => False,
      fun E ρ k => asI (wp Γ a).e E ρ fun xs ck ρ1 => k xs.reverse ck ρ1,
      fun E ρ k => asF (wp Γ a).e E ρ fun xs ck ρ1 => k xs.reverse ck ρ1⟩
  | .pop i e => .of fun E ρ Q => (match gt ρ i with
    | some (.own _ _) => True
    | _ => False) ∧ optI (wpo Γ e) E ρ fun j ρ1 => match gt ρ1 i with
    | some (.own b xs) => match ixN xs.length (j.getD (-1)) with
      | some n => match xs[n]? with
        | some x => xs.length ≤ 1000 ∧ Q (.dat x) (ρ1.set i (some (.own b (xs.eraseIdx n))))
        | none => False
      | none => False
    | _ => False
  | .index a b => .of fun E ρ Q => (wp Γ a).e E ρ fun r ρ1 => with1 ρ1 r (fun x0 => isListD x0 = true) ∧ (wp Γ b).e E ρ1 fun s ρ2 => with2 ρ2 r s fun x y => match x with
    | .list xs => shp y ∧ shp (.list xs) ∧ match xs.findIdx? (fun z => PyData.eqv z y) with
      | some n => Q (.dat (.int n)) ρ2
      | none => False
    | _ => False
  | .count a b => .of fun E ρ Q => (wp Γ a).e E ρ fun r ρ1 => (wp Γ b).e E ρ1 fun s ρ2 => with2 ρ2 r s fun x y => match seqD x with
    | some xs => shp y ∧ shp (.list xs) ∧ Q (.dat (.int (xs.filter fun z => PyData.eqv z y).length)) ρ2
    | none => False
def wps (Γ : Gam) : List Ex → List W4
  | [] => []
  | e :: es => wp Γ e :: wps Γ es
def wpo (Γ : Gam) : Option Ex → Option W4
  | none => none
  | some e => some (wp Γ e)
end
end DL
/-! DL4: the operations keep what DL3 says of them. -/
namespace DL
open PySem PySem.Spec PyProof.Rows L2
/-- what an operation on values hands back -/
def ResB (K : PySem.W.Frag) (bad : Addr → Prop) (H : Hp) (v : V) (H' : Hp) (r : Rs) : Prop :=
  (∀ a o, H a = some o → H' a = some o) ∧ match r with
    | .dat d => DV K H' bad v d
    | .own xs => ∃ a vs, v = .ref a ∧ H a = none ∧ H' a = some (.lst vs) ∧ DVs K H' (fun b => bad b ∨ b = a) vs xs
    | .ref _ => False
def rD2 (K : PySem.W.Frag) (g : D → D → KR → Prop) : R2 := fun x y H Q => ∃ bad dx dy k, DR K H bad x dx ∧ DR K H bad y dy ∧ (∀ a, bad a → H a ≠ none) ∧ g dx dy k ∧ ∀ v H' r, ResB K bad H v H' r → k r → Q v H'
section
variable {X : Cx} {K : PySem.W.Frag} {IO : Nat → Option Addr} {F : Addr → Prop} {bad : Addr → Prop} {H H' : Hp} {σ : St} {ρ : Rho} {v : V} {r : Rs}
theorem ResB.ok (p : Rp K IO F H σ ρ) (h : ResB K (Bad F σ ρ) H v H' r) : Nx σ ρ H σ ρ H' ∧ RsOk K IO F H' σ ρ v r := by
  obtain ⟨s, h⟩ := h
  have n : Nx σ ρ H σ ρ H' := ⟨fun a o e _ => s a o e, fun a q => .inl q, fun a o e => ⟨o, s a o e⟩⟩
  have base : ∀ G : Addr → Prop, (∀ a, G a → F a ∨ H a = none) → (∀ a, F a → G a) → (∀ a, G a → H' a ≠ none) → Rp K IO G H' σ ρ := fun G hG hF hd => by
    have k : ∀ a o, H a = some o → ¬ Bad F σ ρ a → H' a = some o ∧ ¬ Bad G σ ρ a := fun a o e nb => ⟨s a o e, fun q => by
      rcases q with q | q
      · rcases hG a q with z | z
        · exact nb (.inl z)
        · rw [e] at z; cases z
      · exact nb (.inr q)⟩
    refine ⟨fun i d e => ?_, fun i io xs e => ?_, p.inj, hd, p.len⟩
    · obtain ⟨w, h1, h2⟩ := p.dat i d e
      exact ⟨w, h1, h2.mono k⟩
    · obtain ⟨a, vs, h1, h2, h3, h4, h5⟩ := p.own i io xs e
      refine ⟨a, vs, h1, s _ _ h2, h3.mono k, fun q => ?_, h5⟩
      rcases hG a q with z | z
      · exact h4 z
      · rw [h2] at z; cases z
  refine ⟨n, ?_⟩
  cases r with
  | dat d => exact .ofDat (base F (fun a q => .inl q) (fun a q => q) (fun a q => by
      have := p.fdom a q
      cases e : H a with
      | none => exact (this e).elim
      | some o => rw [s a o e]; simp)) h
  | ref i => exact h.elim
  | own xs =>
    obtain ⟨a, vs, rfl, h1, h2, h3⟩ := h
    have na : ¬ F a := fun q => p.fdom a q h1
    refine ⟨base _ (fun b q => ?_) (fun b q => .inl q) (fun b q => ?_), ⟨a, vs, rfl, h2, ?_⟩, fun b q => ?_⟩
    · rcases q with q | q
      · exact .inl q
      · cases q; exact .inr h1
    · rcases q with q | q
      · have := p.fdom b q
        cases e : H b with
        | none => exact (this e).elim
        | some o => rw [s b o e]; simp
      · cases q; rw [h2]; simp
    · refine h3.mono fun b o e nb => ⟨e, fun q => nb ?_⟩
      rcases q with (q | q) | q
      · exact .inl (.inl q)
      · cases q; exact .inr rfl
      · exact .inl (.inr q)
    · cases q; exact na
theorem up_new {p : Addr} {o : HO} (hp : H p = none) : ∀ a u, H a = some u → upd H p o a = some u := fun a u e => by rw [upd_ne (ne_of_none e hp)]; exact e
theorem dvs_new {p : Addr} {o : HO} (hp : H p = none) {vs : List V} {xs : List D} (h : DVs K H bad vs xs) : DVs K (upd H p o) bad vs xs := h.mono fun a u e nb => ⟨up_new hp a u e, nb⟩
theorem dvs_newb {p : Addr} {o : HO} (hp : H p = none) {vs : List V} {xs : List D} (h : DVs K H bad vs xs) : DVs K (upd H p o) (fun b => bad b ∨ b = p) vs xs := h.mono fun a u e nb => ⟨up_new hp a u e, fun q => q.elim nb fun z => by subst z; rw [hp] at e; cases e⟩
/-- a new list, a new tuple -/
theorem ResB.lst {p : Addr} {vs : List V} {xs : List D} (hp : H p = none) (h : DVs K H bad vs xs) : ResB K bad H (.ref p) (upd H p (.lst vs)) (.own xs) :=
  ⟨up_new hp, p, vs, rfl, hp, upd_same, dvs_newb hp h⟩
theorem ResB.tup {p : Addr} {vs : List V} {xs : List D} (hb : ∀ a, bad a → H a ≠ none) (hp : H p = none) (h : DVs K H bad vs xs) : ResB K bad H (.ref p) (upd H p (.tup vs)) (.dat (.tuple xs)) :=
  ⟨up_new hp, .tup (.inl ⟨.inl upd_same, fun q => hb p q hp⟩) (dvs_new hp h)⟩
theorem ResB.same {d : D} (h : DV K H bad v d) : ResB K bad H v H (.dat d) := ⟨fun _ _ e => e, h⟩
theorem ResB.int {i : Int} : ResB K bad H (.int i) H (.dat (.int i)) := ⟨fun _ _ e => e, .int i⟩
theorem ResB.str {x : Str} : ResB K bad H (.str x) H (.dat (.str x)) := ⟨fun _ _ e => e, .str x⟩
theorem ResB.bl {b : Bool} : ResB K bad H (.bl b) H (.dat (.bool b)) := ⟨fun _ _ e => e, .bl b⟩
theorem DR.tupv {xs : List D} (h : DR K H bad v (.tuple xs)) : ∃ a vs, v = .ref a ∧ SqTb K H bad a vs ∧ DVs K H bad vs xs := by
  cases h with
  | dv h => cases h with | tup a b => exact ⟨_, _, rfl, a, b⟩
theorem tuple_mul1 (l : Addr) (items : Array Value) (n : Nat) (dd : Option Addr) (sl : Array (Option Value)) (u : Tok) :
    Meets (Builtin.«tuple.__mul__» ⟨[.ref l, .int 1 u], []⟩) (fun _ R s => s.heap.get? l = some { cls := .type "tuple", dict := dd, data := .seq items n, slots := sl } ∧ R (.ok (.ret (Value.ref l))) { s with toks := s.toks }) :=
  .of_wp fun prog w A R s h => by
    obtain ⟨hp, g, d, tk, os⟩ := s
    obtain ⟨hl, h⟩ := h
    have f1 := AutoSeq1.idx_int
    wp_walk using wpAny_loadPart' hl
    repeat (first
      | (refine wpAny_ite_false (by decide) ?_; wp_walk using wpAny_loadPart' hl)
      | (refine wpAny_ite_true (by simp) ?_; wp_walk using wpAny_loadPart' hl))
    exact ⟨_, rfl, h⟩
theorem op_rep1 : OpR X (binaryOp .Mult) (fun x y H Q => ∃ l xs, x = .ref l ∧ y = .int 1 ∧ SqT X.K H l xs ∧ Q (.ref l) H) := by
  intro pins s σ H x y v u Q I rx ry h
  obtain ⟨l, xs, rfl, rfl, hT, q⟩ := h
  cases rx
  obtain ⟨t, rfl⟩ := ry
  obtain ⟨its, r, ⟨⟨cls, dd, data, sl⟩, ho, hc, n, hd⟩, hs⟩ := I.tuple hT
  simp only at hc hd
  subst hc hd
  exact wpAny_binaryOp_repeat_ref (T := "tuple") (U := "int") (by decide) ⟨_, ho, rfl⟩ (fun s' => typeIs_int s' 1 t) noFill_tuple_mul F.fills_int_mul F.slot_int_rmul repeat_tuple F.slot_int_index.lookup
    (call_meets F.slot_int_rmul (typeIs_int s 1 t) F.entry_int_rmul (F.args_int_rmul_2 _ _) (int_rmul_tuple 1 t l its.toArray n dd sl)
      ⟨ho, rfl, ⟨_, ho, rfl⟩, call_meets F.slot_tuple_mul ⟨_, ho, rfl⟩ F.entry_tuple_mul (F.args_tuple_mul_2 _ _) (tuple_mul1 l its.toArray n dd sl t) ⟨ho, ⟨.ref l, H, I.tok _, rfl, q⟩⟩⟩)
theorem op_catL : OpR X (binaryOp .Add) (fun x y H Q => ∃ l b xs zs, x = .ref l ∧ y = .ref b ∧ SqL X.K H l xs ∧ SqL X.K H b zs ∧ xs.length + zs.length ≤ sizeLine ∧ ∀ p, H p = none → Q (.ref p) (upd H p (.lst (xs ++ zs)))) := by
  intro pins s σ H x y v u Q I rx ry h
  obtain ⟨l, b, xs, zs, rfl, rfl, hH, hB, hz, q⟩ := h
  cases rx
  cases ry
  obtain ⟨its, r, ⟨⟨c1, d1, t1, sl1⟩, n, ho, hc, hd, hs⟩, _⟩ := I.list hH
  obtain ⟨its2, r2, ⟨⟨c2, d2, t2, sl2⟩, n2, ho2, hc2, hd2, hs2⟩, _⟩ := I.list hB
  simp only at hc hd hs hc2 hd2 hs2
  subst hc hd hs hc2 hd2 hs2
  have l1 := r.length
  have l2 := r2.length
  refine concat_meets ⟨_, ho, rfl⟩ ⟨_, ho2, rfl⟩ noFill_list_add seq_list_add PySem.F.slot_list_add PySem.F.entry_list_add (PySem.F.args_list_add_2 _ _) (list_addW l b its.toArray its2.toArray n n2 none none sl1 sl2 (by rw [List.size_toArray, List.size_toArray]; omega)) ⟨ho, ho2, ?_⟩
  have ea : its.toArray ++ its2.toArray = (its ++ its2).toArray := by simp
  rw [ea]
  exact ⟨.ref _, _, I.lnew (t' := s.toks) (r.append r2) (by rw [List.length_append]; omega), rfl, q _ I.fresh⟩
/-- the operator of the syntax -/
def O2.op : O2 → Operator
  | .add => .Add | .sub => .Sub | .mul => .Mult | .fdiv => .FloorDiv | .mod => .Mod | .pow => .Pow
theorem DVs.ne_nil {vs : List V} {xs : List D} (h : DVs K H bad vs xs) : vs = [] ↔ xs = [] := by
  cases h with
  | nil => simp
  | cons _ _ => simp
theorem DVs.rep {vs : List V} {xs : List D} (h : DVs K H bad vs xs) : ∀ n : Nat, DVs K H bad (List.replicate n vs).flatten (List.replicate n xs).flatten
  | 0 => .nil
  | n + 1 => by
    rw [List.replicate_succ, List.replicate_succ, List.flatten_cons, List.flatten_cons]
    exact h.append (DVs.rep h n)
theorem op2_ok (o : O2) : OpR X (binaryOp o.op) (rD2 X.K (op2D o)) := by
  intro pins s σ H x y v u Q I rx ry h
  obtain ⟨bad, dx, dy, k, hx, hy, hb, g, q⟩ := h
  cases o with
  | add =>
    cases dx <;> cases dy <;> simp only [op2D] at g
    · obtain rfl := hx.int; obtain rfl := hy.int
      exact op_add pins s σ H _ _ v u Q I rx ry ⟨_, _, rfl, rfl, q _ _ _ .int g⟩
    · obtain rfl := hx.str; obtain rfl := hy.str
      exact op_add_str pins s σ H _ _ v u Q I rx ry ⟨_, _, rfl, rfl, g.1, q _ _ _ .str g.2⟩
    · obtain ⟨a, vs, rfl, h1, h2⟩ := hx.list
      obtain ⟨b, ws, rfl, h3, h4⟩ := hy.list
      exact op_catL pins s σ H _ _ v u Q I rx ry ⟨_, _, _, _, rfl, rfl, h1, h3, by rw [h2.length, h4.length]; exact g.1, fun p hp => q _ _ _ (.lst hp (h2.append h4)) g.2⟩
    · obtain ⟨a, vs, rfl, h1, h2⟩ := hx.tupv
      obtain ⟨b, ws, rfl, h3, h4⟩ := hy.tupv
      refine op_catA pins s σ H _ _ v u Q I rx ry ⟨_, _, _, _, rfl, rfl, h1.sq, h3.sq, by rw [h2.length, h4.length]; exact g.1, fun e => ?_, fun _ e => ?_, fun _ _ p hp => q _ _ _ (.tup hb hp (h2.append h4)) g.2⟩
      · have e' := h2.ne_nil.mp e
        subst e'
        exact q _ _ _ (.same (.tup h3 h4)) (by simpa using g.2)
      · have e' := h4.ne_nil.mp e
        subst e'
        exact q _ _ _ (.same (.tup h1 h2)) (by simpa using g.2)
  | sub =>
    cases dx <;> cases dy <;> simp only [op2D] at g
    obtain rfl := hx.int; obtain rfl := hy.int
    exact op_sub pins s σ H _ _ v u Q I rx ry ⟨_, _, rfl, rfl, q _ _ _ .int g⟩
  | mul =>
    cases dx <;> cases dy <;> simp only [op2D] at g
    · obtain rfl := hx.int; obtain rfl := hy.int
      exact op_mulX pins s σ H _ _ v u Q I rx ry ⟨_, _, rfl, rfl, g.1, q _ _ _ .int g.2⟩
    · obtain ⟨a, vs, rfl, h1, h2⟩ := hx.tupv
      obtain rfl := hy.int
      by_cases hj : ‹Int› = 1
      · subst hj
        exact op_rep1 pins s σ H _ _ v u Q I rx ry ⟨_, _, rfl, rfl, h1.sq, q _ _ _ (.same (.tup h1 h2)) (by simpa using g.2.2.2.2)⟩
      refine op_repT pins s σ H _ _ v u Q I rx ry ⟨_, _, _, rfl, rfl, h1.sq, fun e => g.2.2.1 (h2.ne_nil.mp e), by have := g.1; omega, g.2.1, by rw [h2.length]; exact g.2.2.2.1, fun p hp => q _ _ _ (.tup hb hp (h2.rep _)) g.2.2.2.2⟩
  | fdiv =>
    cases dx <;> cases dy <;> simp only [op2D] at g
    obtain rfl := hx.int; obtain rfl := hy.int
    exact op_fdivW pins s σ H _ _ v u Q I rx ry ⟨_, _, rfl, rfl, g.1, q _ _ _ .int g.2⟩
  | mod =>
    cases dx <;> cases dy <;> simp only [op2D] at g
    obtain rfl := hx.int; obtain rfl := hy.int
    exact op_mod pins s σ H _ _ v u Q I rx ry ⟨_, _, rfl, rfl, g.1, q _ _ _ .int g.2⟩
  | pow =>
    cases dx <;> cases dy <;> simp only [op2D] at g
    obtain rfl := hx.int; obtain rfl := hy.int
    exact op_pow pins s σ H _ _ v u Q I rx ry ⟨_, _, rfl, rfl, g.1, q _ _ _ .int g.2⟩
end
end DL
/-! DL5: comparisons, places, slices, built-ins. -/
namespace DL
open PySem PySem.Spec PyProof.Rows L2
def rC2 (K : PySem.W.Frag) (g : D → D → (Bool → Prop) → Prop) : R2 := fun x y H Q => ∃ bad dx dy k, DR K H bad x dx ∧ DR K H bad y dy ∧ g dx dy k ∧ ∀ b, k b → Q (.bl b) H
def C2.op : C2 → CmpOp
  | .lt => .Lt | .le => .LtE | .gt => .Gt | .ge => .GtE | .eq => .Eq | .ne => .NotEq | .isin => .In | .notin => .NotIn
section
variable {X : Cx} {K : PySem.W.Frag} {F : Addr → Prop} {bad : Addr → Prop} {H H' : Hp} {σ : St} {ρ : Rho} {v : V} {r : Rs}
theorem room_in {d : PyData} {A : Around} {n : Nat} (sd : SeqAt.shaped d = true) (hu : A.units + 65 < cLine) : A.units + 1 + min n d.depth < cLine := by
  have := SeqAt.depth_of_shaped sd
  omega
theorem cmp_ok (hu : X.A.units + 65 < cLine) (o : C2) : OpR X (compareOp o.op) (rC2 X.K (cmpD o)) := by
  have hu' : X.A.units + 64 < cLine := by omega
  intro pins s σ H x y v u Q I rx ry h
  obtain ⟨bad, dx, dy, k, hx, hy, g, q⟩ := h
  cases o with
  | lt =>
    cases dx <;> cases dy <;> simp only [cmpD] at g
    obtain rfl := hx.int; obtain rfl := hy.int
    exact op_lt pins s σ H _ _ v u Q I rx ry ⟨_, _, rfl, rfl, q _ g⟩
  | le =>
    cases dx <;> cases dy <;> simp only [cmpD] at g
    obtain rfl := hx.int; obtain rfl := hy.int
    exact op_le pins s σ H _ _ v u Q I rx ry ⟨_, _, rfl, rfl, q _ g⟩
  | gt =>
    cases dx <;> cases dy <;> simp only [cmpD] at g
    obtain rfl := hx.int; obtain rfl := hy.int
    exact op_gt pins s σ H _ _ v u Q I rx ry ⟨_, _, rfl, rfl, q _ g⟩
  | ge =>
    cases dx <;> cases dy <;> simp only [cmpD] at g
    obtain rfl := hx.int; obtain rfl := hy.int
    exact op_ge pins s σ H _ _ v u Q I rx ry ⟨_, _, rfl, rfl, q _ g⟩
  | eq =>
    have g' : shp dx ∧ shp dy ∧ k (PyData.eqv dx dy) := by cases dx <;> exact g
    exact op_eqD hu' pins s σ H _ _ v u Q I rx ry ⟨dx, dy, hx.dp, hy.dp, g'.1, g'.2.1, q _ g'.2.2⟩
  | ne =>
    have g' : shp dx ∧ shp dy ∧ k (!PyData.eqv dx dy) := by cases dx <;> exact g
    exact op_neD hu' pins s σ H _ _ v u Q I rx ry ⟨dx, dy, hx.dp, hy.dp, g'.1, g'.2.1, q _ g'.2.2⟩
  | isin =>
    obtain ⟨as, r1⟩ := Dp.reads I dx x v hx.dp rx
    obtain ⟨bs, r2⟩ := Dp.reads I dy y u hy.dp ry
    cases dy with
    | list ys =>
      have g' : shp dx ∧ shp (.list ys) ∧ k (inD dx ys) := by cases dx <;> exact g
      exact SeqAt.in_list_reads r2 r1 (SeqAt.canLay_of_shaped g'.2.1) (SeqAt.canLay_of_shaped g'.1) (room_in g'.1 hu) ⟨.bl _, H, I, rfl, q _ g'.2.2⟩
    | tuple ys =>
      have g' : shp dx ∧ shp (.tuple ys) ∧ k (inD dx ys) := by cases dx <;> exact g
      exact SeqAt.in_tuple_reads r2 r1 (SeqAt.canLay_of_shaped g'.2.1) (SeqAt.canLay_of_shaped g'.1) (room_in g'.1 hu) ⟨.bl _, H, I, rfl, q _ g'.2.2⟩
    | _ => cases dx <;> exact g.elim
  | notin =>
    obtain ⟨as, r1⟩ := Dp.reads I dx x v hx.dp rx
    obtain ⟨bs, r2⟩ := Dp.reads I dy y u hy.dp ry
    cases dy with
    | list ys =>
      have g' : shp dx ∧ shp (.list ys) ∧ k (!inD dx ys) := by cases dx <;> exact g
      exact SeqAt.notIn_list_reads r2 r1 (SeqAt.canLay_of_shaped g'.2.1) (SeqAt.canLay_of_shaped g'.1) (room_in g'.1 hu) ⟨.bl _, H, I, rfl, q _ g'.2.2⟩
    | tuple ys =>
      have g' : shp dx ∧ shp (.tuple ys) ∧ k (!inD dx ys) := by cases dx <;> exact g
      exact SeqAt.notIn_tuple_reads r2 r1 (SeqAt.canLay_of_shaped g'.2.1) (SeqAt.canLay_of_shaped g'.1) (room_in g'.1 hu) ⟨.bl _, H, I, rfl, q _ g'.2.2⟩
    | _ => cases dx <;> exact g.elim
/-! ### places -/
def rI2 (K : PySem.W.Frag) : R2 := fun x y H Q => ∃ bad dx dy k, DR K H bad x dx ∧ DR K H bad y dy ∧ idxD dx dy k ∧ ∀ v d, DV K H bad v d → k d → Q v H
theorem DVs.atI {vs : List V} {xs : List D} {i : Int} {d : D} (h : DVs K H bad vs xs) (e : L2.atI xs i = some d) : ∃ v, L2.atI vs i = some v ∧ DV K H bad v d := by
  unfold L2.atI at e ⊢
  rw [h.length]
  cases q : ixN xs.length i with
  | none => rw [q] at e; cases e
  | some j =>
    rw [q] at e
    exact h.get (i := j) e
theorem idx_ok : IxR X (rI2 X.K) := by
  intro va sl pins s σ H x y v u Q I rx ry h hs
  obtain ⟨bad, dx, dy, k, hx, hy, g, q⟩ := h
  cases dx <;> cases dy <;> simp only [idxD] at g
  · obtain ⟨a, vs, rfl, h1, h2⟩ := hx.list
    obtain rfl := hy.int
    split at g
    · rename_i d e
      obtain ⟨w, e1, e2⟩ := h2.atI e
      exact ix_list va sl pins s σ H _ _ v u Q I rx ry ⟨_, _, _, _, rfl, rfl, h1, e1, q _ _ e2 g⟩ hs
    · exact g.elim
  · obtain ⟨a, vs, rfl, h1, h2⟩ := hx.tup
    obtain rfl := hy.int
    split at g
    · rename_i d e
      obtain ⟨w, e1, e2⟩ := h2.atI e
      exact ix_tup va sl pins s σ H _ _ v u Q I rx ry ⟨_, _, _, _, rfl, rfl, h1, e1, q _ _ e2 g⟩ hs
    · exact g.elim
/-! ### slices -/
theorem DVs.cut {vs : List V} {xs : List D} (h : DVs K H bad vs xs) (lo hi : Option Int) : DVs K H bad (cutV vs lo hi) (cutD xs lo hi) := by
  unfold cutV cutD
  rw [h.length]
  exact (h.drop _).take _
def rSl (K : PySem.W.Frag) : V → Option Int → Option Int → Hp → VK → Prop := fun x lo hi H Q => ∃ bad dx k, DR K H bad x dx ∧ (∀ a, bad a → H a ≠ none) ∧ slcD dx lo hi k ∧ ∀ v H' r, ResB K bad H v H' r → k r → Q v H'
theorem slc_ok : SlR X (rSl X.K) := by
  intro pins s σ H x v vl vu lo hi sl Q I rx hs pl pu h
  obtain ⟨bad, dx, k, hx, hb, g, q⟩ := h
  cases dx <;> simp only [slcD] at g
  · obtain ⟨a, vs, rfl, h1, h2⟩ := hx.list
    exact sl_list pins s σ H _ v vl vu lo hi sl Q I rx hs pl pu ⟨_, _, rfl, h1, fun p hp => q _ _ _ (.lst hp (h2.cut lo hi)) g⟩
  · obtain ⟨a, vs, rfl, h1, h2⟩ := hx.tupv
    refine sl_tupA pins s σ H _ v vl vu lo hi sl Q I rx hs pl pu ⟨_, _, rfl, h1.sq, fun e => ?_, fun _ p hp => q _ _ _ (.tup hb hp (h2.cut lo hi)) g⟩
    refine q _ _ (.dat _) (.same ?_) g
    rename_i xs
    have hw : cutD xs lo hi = xs := by
      unfold cutD
      rw [h2.length] at e
      rw [e.1, e.2]
      simp
    rw [hw]
    exact .tup h1 h2
end
end DL
/-! DL6: built-ins. -/
namespace DL
open PySem PySem.Spec PyProof.Rows L2
inductive DRs (K : PySem.W.Frag) (H : Hp) (bad : Addr → Prop) : List V → List D → Prop
  | nil : DRs K H bad [] []
  | cons {v d vs ds} : DR K H bad v d → DRs K H bad vs ds → DRs K H bad (v :: vs) (d :: ds)
def rBi (K : PySem.W.Frag) (g : List D → KR → Prop) : List V → Hp → VK → Prop := fun xs H Q => ∃ bad ds k, DRs K H bad xs ds ∧ (∀ a, bad a → H a ≠ none) ∧ g ds k ∧ ∀ v H' r, ResB K bad H v H' r → k r → Q v H'
section
variable {X : Cx} {K : PySem.W.Frag} {F : Addr → Prop} {bad : Addr → Prop} {H H' : Hp} {σ : St} {ρ : Rho} {v : V} {r : Rs}
theorem DRs.one {vs : List V} {d : D} (h : DRs K H bad vs [d]) : ∃ v, vs = [v] ∧ DR K H bad v d := by
  cases h with | cons a b => cases b; exact ⟨_, rfl, a⟩
theorem DRs.two {vs : List V} {d e : D} (h : DRs K H bad vs [d, e]) : ∃ v w, vs = [v, w] ∧ DR K H bad v d ∧ DR K H bad w e := by
  cases h with | cons a b => cases b with | cons c d => cases d; exact ⟨_, _, rfl, a, c⟩
theorem intsD_map : ∀ {xs : List D} {ns : List Int}, intsD xs = some ns → xs = ns.map .int
  | [], _, h => by cases h; rfl
  | .int i :: r, ns, h => by
    simp only [intsD, Option.map_eq_some_iff] at h
    obtain ⟨m, h1, rfl⟩ := h
    rw [intsD_map h1]; rfl
  | .none :: _, _, h => by simp [intsD] at h
  | .bool _ :: _, _, h => by simp [intsD] at h
  | .str _ :: _, _, h => by simp [intsD] at h
  | .list _ :: _, _, h => by simp [intsD] at h
  | .tuple _ :: _, _, h => by simp [intsD] at h
  | .dict _ :: _, _, h => by simp [intsD] at h
theorem boolsD_map : ∀ {xs : List D} {ns : List Bool}, boolsD xs = some ns → xs = ns.map .bool
  | [], _, h => by cases h; rfl
  | .bool i :: r, ns, h => by
    simp only [boolsD, Option.map_eq_some_iff] at h
    obtain ⟨m, h1, rfl⟩ := h
    rw [boolsD_map h1]; rfl
  | .none :: _, _, h => by simp [boolsD] at h
  | .int _ :: _, _, h => by simp [boolsD] at h
  | .str _ :: _, _, h => by simp [boolsD] at h
  | .list _ :: _, _, h => by simp [boolsD] at h
  | .tuple _ :: _, _, h => by simp [boolsD] at h
  | .dict _ :: _, _, h => by simp [boolsD] at h
theorem DVs.bools : ∀ {ns : List Bool} {vs : List V}, DVs K H bad vs (ns.map .bool) → vs = ns.map V.bl
  | [], _, h => by cases h; rfl
  | n :: ns, _, h => by cases h with | cons a r => cases a; simp [DVs.bools r]
theorem b_len : CallR X (.builtin "len") (rBi X.K bLen) := by
  intro pins s σ H vs us Q I r h
  obtain ⟨bad, ds, k, hd, hb, g, q⟩ := h
  unfold bLen at g
  split at g
  · obtain ⟨v, rfl, h1⟩ := hd.one
    obtain ⟨a, ws, rfl, h2, h3⟩ := h1.list
    exact call_len_seq pins s σ H _ us Q I r ⟨a, ws, rfl, .inl h2, by rw [h3.length]; exact q _ _ _ .int g⟩
  · obtain ⟨v, rfl, h1⟩ := hd.one
    obtain ⟨a, ws, rfl, h2, h3⟩ := h1.tup
    exact call_len_seq pins s σ H _ us Q I r ⟨a, ws, rfl, .inr h2, by rw [h3.length]; exact q _ _ _ .int g⟩
  · exact g.elim
theorem b_tuple : CallR X (.type "tuple") (rBi X.K bTuple) := by
  intro pins s σ H vs us Q I r h
  obtain ⟨bad, ds, k, hd, hb, g, q⟩ := h
  unfold bTuple at g
  split at g
  · obtain ⟨v, rfl, h1⟩ := hd.one
    obtain ⟨a, ws, rfl, h2, h3⟩ := h1.list
    exact call_tuple_of pins s σ H _ us Q I r ⟨a, ws, rfl, .inl ⟨h2, fun p hp => q _ _ _ (.tup hb hp h3) g⟩⟩
  · obtain ⟨v, rfl, h1⟩ := hd.one
    obtain ⟨a, ws, rfl, h2, h3⟩ := h1.tupv
    exact call_tuple_of pins s σ H _ us Q I r ⟨a, ws, rfl, .inr ⟨h2.sq, q _ _ _ (.same (.tup h2 h3)) g⟩⟩
  · exact g.elim
theorem b_list : CallR X (.type "list") (rBi X.K bList) := by
  intro pins s σ H vs us Q I r h
  obtain ⟨bad, ds, k, hd, hb, g, q⟩ := h
  unfold bList at g
  split at g
  · obtain ⟨v, rfl, h1⟩ := hd.one
    obtain ⟨a, ws, rfl, h2, h3⟩ := h1.list
    exact call_list_of pins s σ H _ us Q I r ⟨a, ws, rfl, .inl h2, fun p hp => q _ _ _ (.lst hp h3) g⟩
  · obtain ⟨v, rfl, h1⟩ := hd.one
    obtain ⟨a, ws, rfl, h2, h3⟩ := h1.tup
    exact call_list_of pins s σ H _ us Q I r ⟨a, ws, rfl, .inr h2, fun p hp => q _ _ _ (.lst hp h3) g⟩
  · exact g.elim
theorem b_abs : CallR X (.builtin "abs") (rBi X.K bAbs) := by
  intro pins s σ H vs us Q I r h
  obtain ⟨bad, ds, k, hd, hb, g, q⟩ := h
  unfold bAbs at g
  split at g
  · obtain ⟨v, rfl, h1⟩ := hd.one
    obtain rfl := h1.int
    exact call_abs pins s σ H _ us Q I r ⟨_, rfl, q _ _ _ .int g⟩
  · exact g.elim
theorem b_int : CallR X (.type "int") (rBi X.K bInt) := by
  intro pins s σ H vs us Q I r h
  obtain ⟨bad, ds, k, hd, hb, g, q⟩ := h
  unfold bInt at g
  split at g
  · obtain ⟨v, rfl, h1⟩ := hd.one
    obtain rfl := h1.int
    exact call_int1 pins s σ H _ us Q I r (.inl ⟨_, rfl, q _ _ _ .int g⟩)
  · obtain ⟨v, rfl, h1⟩ := hd.one
    obtain rfl := h1.bl
    exact call_int1 pins s σ H _ us Q I r (.inr ⟨_, rfl, q _ _ _ .int g⟩)
  · exact g.elim
theorem b_divmod : CallR X (.builtin "divmod") (rBi X.K bDivmod) := by
  intro pins s σ H vs us Q I r h
  obtain ⟨bad, ds, k, hd, hb, g, q⟩ := h
  unfold bDivmod at g
  split at g
  · obtain ⟨v, w, rfl, h1, h2⟩ := hd.two
    obtain rfl := h1.int
    obtain rfl := h2.int
    exact call_divmod pins s σ H _ us Q I r ⟨_, _, rfl, g.1, fun p hp => q _ _ _ (.tup hb hp (.cons (.int _) (.cons (.int _) .nil))) g.2⟩
  · exact g.elim
theorem b_gcd : CallR X (.builtin "math.gcd") (rBi X.K bGcd) := by
  intro pins s σ H vs us Q I r h
  obtain ⟨bad, ds, k, hd, hb, g, q⟩ := h
  unfold bGcd at g
  split at g
  · obtain ⟨v, w, rfl, h1, h2⟩ := hd.two
    obtain rfl := h1.int
    obtain rfl := h2.int
    exact cr_gcd pins s σ H _ us Q I r ⟨_, _, rfl, q _ _ _ .int g⟩
  · exact g.elim
theorem b_sum (hc : X.calm = true) : CallR X (.builtin "sum") (rBi X.K (bInts fun ns k => k (.int ns.sum))) := by
  intro pins s σ H vs us Q I r h
  obtain ⟨bad, ds, k, hd, hb, g, q⟩ := h
  unfold bInts at g
  split at g
  · split at g
    · rename_i ns e
      obtain rfl := intsD_map e
      obtain ⟨v, rfl, h1⟩ := hd.one
      obtain ⟨a, ws, rfl, h2, h3⟩ := h1.list
      obtain rfl := h3.ints
      exact cr_sum hc pins s σ H _ us Q I r ⟨a, ns, rfl, h2, q _ _ _ .int g⟩
    · exact g.elim
  · exact g.elim
theorem b_all (hc : X.calm = true) : CallR X (.builtin "all") (rBi X.K (bBools fun bs => bs.all id)) := by
  intro pins s σ H vs us Q I r h
  obtain ⟨bad, ds, k, hd, hb, g, q⟩ := h
  unfold bBools at g
  split at g
  · split at g
    · rename_i ns e
      obtain rfl := boolsD_map e
      obtain ⟨v, rfl, h1⟩ := hd.one
      obtain ⟨a, ws, rfl, h2, h3⟩ := h1.list
      obtain rfl := h3.bools
      exact cr_all hc pins s σ H _ us Q I r ⟨a, ns, rfl, h2, q _ _ _ .bl g⟩
    · exact g.elim
  · exact g.elim
theorem b_any (hc : X.calm = true) : CallR X (.builtin "any") (rBi X.K (bBools fun bs => bs.any id)) := by
  intro pins s σ H vs us Q I r h
  obtain ⟨bad, ds, k, hd, hb, g, q⟩ := h
  unfold bBools at g
  split at g
  · split at g
    · rename_i ns e
      obtain rfl := boolsD_map e
      obtain ⟨v, rfl, h1⟩ := hd.one
      obtain ⟨a, ws, rfl, h2, h3⟩ := h1.list
      obtain rfl := h3.bools
      exact cr_any hc pins s σ H _ us Q I r ⟨a, ns, rfl, h2, q _ _ _ .bl g⟩
    · exact g.elim
  · exact g.elim
theorem b_max (hc : X.calm = true) : CallR X (.builtin "max") (rBi X.K bMax) := by
  intro pins s σ H vs us Q I r h
  obtain ⟨bad, ds, k, hd, hb, g, q⟩ := h
  unfold bMax at g
  split at g
  · obtain ⟨v, w, rfl, h1, h2⟩ := hd.two
    obtain rfl := h1.int
    obtain rfl := h2.int
    exact call_max2 hc pins s σ H _ us Q I r ⟨_, _, rfl, q _ _ _ .int g⟩
  · split at g
    · rename_i ns e
      obtain ⟨v, rfl, h1⟩ := hd.one
      obtain ⟨a, ws, rfl, h2, h3⟩ := h1.list
      obtain rfl := intsD_map e
      obtain rfl := h3.ints
      refine cr_max hc pins s σ H _ us Q I r ⟨a, ns, rfl, h2, ?_, fun m m1 m2 => q _ _ _ .int (g.2 m m1 m2)⟩
      cases ns with
      | nil => exact (g.1 rfl).elim
      | cons _ _ => simp
    · exact g.elim
  · exact g.elim
theorem b_min (hc : X.calm = true) : CallR X (.builtin "min") (rBi X.K bMin) := by
  intro pins s σ H vs us Q I r h
  obtain ⟨bad, ds, k, hd, hb, g, q⟩ := h
  unfold bMin at g
  split at g
  · obtain ⟨v, w, rfl, h1, h2⟩ := hd.two
    obtain rfl := h1.int
    obtain rfl := h2.int
    exact call_min2 hc pins s σ H _ us Q I r ⟨_, _, rfl, q _ _ _ .int g⟩
  · split at g
    · rename_i ns e
      obtain ⟨v, rfl, h1⟩ := hd.one
      obtain ⟨a, ws, rfl, h2, h3⟩ := h1.list
      obtain rfl := intsD_map e
      obtain rfl := h3.ints
      refine cr_min hc pins s σ H _ us Q I r ⟨a, ns, rfl, h2, ?_, fun m m1 m2 => q _ _ _ .int (g.2 m m1 m2)⟩
      cases ns with
      | nil => exact (g.1 rfl).elim
      | cons _ _ => simp
    · exact g.elim
  · exact g.elim
theorem DVs.perm {vs ws : List V} (h : vs.Perm ws) : ∀ {xs : List D}, DVs K H bad ws xs → ∃ ys : List D, ys.Perm xs ∧ DVs K H bad vs ys := by
  induction h with
  | nil => intro xs h; exact ⟨xs, .refl _, h⟩
  | cons v _ ih =>
    intro xs h
    cases h with
    | cons a r =>
      obtain ⟨ys, p, q⟩ := ih r
      exact ⟨_, p.cons _, .cons a q⟩
  | swap v w l =>
    intro xs h
    cases h with
    | cons a r =>
      cases r with
      | cons b r => exact ⟨_, List.Perm.swap .., .cons b (.cons a r)⟩
  | trans _ _ ih1 ih2 =>
    intro xs h
    obtain ⟨ys, p, q⟩ := ih2 h
    obtain ⟨zs, p2, q2⟩ := ih1 q
    exact ⟨zs, p2.trans p, q2⟩
theorem DVs.mem {xs : List D} {vs : List V} (h : DVs K H bad vs xs) : ∀ {v : V}, v ∈ vs → ∃ d, d ∈ xs ∧ DV K H bad v d := fun {v} m => by
  obtain ⟨i, hi⟩ := List.getElem?_of_mem m
  obtain ⟨d, h1, h2⟩ := h.get' hi
  exact ⟨d, List.mem_of_getElem? h1, h2⟩
theorem DV.tupI {v : V} {ns : List Int} (h : DV K H bad v (.tuple (ns.map .int))) : TupI K H v ns := by
  cases h with
  | tup a b =>
    have e := DVs.ints b
    subst e
    exact ⟨_, rfl, a.sq⟩
theorem DVs.pairwise {R : V → V → Prop} {S : D → D → Prop} (f : ∀ v w x y, DV K H bad v x → DV K H bad w y → R v w → S x y) : ∀ {vs : List V} {xs : List D}, DVs K H bad vs xs → vs.Pairwise R → xs.Pairwise S
  | _, [], h, _ => .nil
  | _, x :: xs, h, p => by
    cases h with
    | cons a r =>
      cases p with
      | cons p1 p2 =>
        refine .cons (fun y hy => ?_) (DVs.pairwise f r p2)
        obtain ⟨i, hi⟩ := List.getElem?_of_mem hy
        obtain ⟨w, h1, h2⟩ := r.get hi
        exact f _ _ _ _ a h2 (p1 w (List.mem_of_getElem? h1))
theorem b_sorted : CallR X (.builtin "sorted") (rBi X.K bSorted) := by
  intro pins s σ H vs us Q I r h
  obtain ⟨bad, ds, k, hd, hb, g, q⟩ := h
  unfold bSorted at g
  split at g
  · split at g
    · rename_i ns e
      obtain rfl := intsD_map e
      obtain ⟨v, rfl, h1⟩ := hd.one
      obtain ⟨a, ws, rfl, h2, h3⟩ := h1.list
      obtain rfl := h3.ints
      exact cr_sorted pins s σ H _ us Q I r ⟨a, ns, rfl, h2, g.1, fun ns' p h4 h5 hp => q _ _ _ (.lst hp (DVs.of_ints ns')) (g.2 ns' h4 h5)⟩
    · obtain ⟨d, B, hd1, h64, hx, g2⟩ := g
      obtain ⟨v, rfl, h1⟩ := hd.one
      obtain ⟨a, ws, rfl, h2, h3⟩ := h1.list
      refine cr_sortT (d := d) (B := B) hd1 pins s σ H _ us Q I r ⟨a, ws, rfl, h2, by rw [h3.length]; exact h64, fun x hm => ?_, fun ys p hp hw hn => ?_⟩
      · obtain ⟨y, m, dv⟩ := h3.mem hm
        obtain ⟨ns, rfl, h4, h5⟩ := hx y m
        exact ⟨ns, dv.tupI, h4, h5⟩
      · obtain ⟨xs', p', dv'⟩ := DVs.perm hp h3
        refine q _ _ _ (.lst hn dv') (g2 xs' p' (DVs.pairwise (fun v w x y d1 d2 hr n m e1 e2 => ?_) dv' hw))
        subst e1 e2
        exact hr n m d1.tupI d2.tupI
  · exact g.elim
/-! isinstance -/
def rIs (K : PySem.W.Frag) (T : String) (f : D → Bool) : List V → Hp → VK → Prop := fun xs H Q => ∃ bad v d, xs = [v, .ty T] ∧ DR K H bad v d ∧ Q (.bl (f d)) H
/-- the built-in type of a datum -/
def tyD : D → String
  | .none => "NoneType" | .bool _ => "bool" | .int _ => "int" | .str _ => "str" | .list _ => "list" | .tuple _ => "tuple" | .dict _ => "dict"
theorem DR.ty {d : D} (h : DR K H bad v d) : TyX K H v (.type (tyD d)) := by
  cases d with
  | none => obtain rfl := h.non; exact .base .non
  | bool b => obtain rfl := h.bl; exact .base (.bl _)
  | int i => obtain rfl := h.int; exact .base (.int _)
  | str x => obtain rfl := h.str; exact .base (.str _)
  | list xs =>
    obtain ⟨a, vs, rfl, (h1 | ⟨o, h1⟩) | ⟨o, its, n, h1, h3, _⟩, h2⟩ := h.list
    · exact .base (.lst h1)
    · exact .base (.frz h1)
    · exact .kList h1 h3
  | tuple xs =>
    obtain ⟨a, vs, rfl, (h1 | ⟨o, h1⟩) | ⟨o, its, n, h1, h3, _⟩, h2⟩ := h.tup
    · exact .base (.tup h1)
    · exact .fTuple h1
    · exact .kTuple h1 h3
  | dict kvs => cases h with | dv h => cases h
theorem b_is {T : String} {f : D → Bool} (h : ∀ d, kitB (tyD d) T = some (f d)) : CallR X (.builtin "isinstance") (rIs X.K T f) := by
  intro pins s σ H vs us Q I r ⟨bad, v, d, e, hd, q⟩
  subst e
  exact call_isi pins s σ H _ us Q I r ⟨v, _, _, _, _, rfl, .ty T, hd.ty, kit_ty (h d), q⟩
theorem k_int : ∀ d, kitB (tyD d) "int" = some (isIntD d) := by intro d; cases d <;> (simp only [tyD, isIntD]; decide +kernel)
theorem k_bool : ∀ d, kitB (tyD d) "bool" = some (isBoolD d) := by intro d; cases d <;> (simp only [tyD, isBoolD]; decide +kernel)
theorem k_tuple : ∀ d, kitB (tyD d) "tuple" = some (isTupleD d) := by intro d; cases d <;> (simp only [tyD, isTupleD]; decide +kernel)
theorem k_list : ∀ d, kitB (tyD d) "list" = some (isListD d) := by intro d; cases d <;> (simp only [tyD, isListD]; decide +kernel)
theorem k_str : ∀ d, kitB (tyD d) "str" = some (isStrD d) := by intro d; cases d <;> (simp only [tyD, isStrD]; decide +kernel)
/-! repr -/
mutual
theorem nodict : ∀ (d : D) {v : V}, DR K H bad v d → d.hasDict = false
  | .none, _, _ => rfl
  | .bool _, _, _ => rfl
  | .int _, _, _ => rfl
  | .str _, _, _ => rfl
  | .list xs, _, h => by obtain ⟨a, vs, rfl, _, h2⟩ := h.list; simp only [PyData.hasDict]; exact nodicts xs h2
  | .tuple xs, _, h => by obtain ⟨a, vs, rfl, _, h2⟩ := h.tup; simp only [PyData.hasDict]; exact nodicts xs h2
  | .dict _, _, h => by cases h with | dv h => cases h
theorem nodicts : ∀ (ds : List D) {vs : List V}, DVs K H bad vs ds → PyData.hasDictAll ds = false
  | [], _, _ => rfl
  | d :: ds, _, h => by cases h with | cons a r => simp only [PyData.hasDictAll, nodict d (.dv a), nodicts ds r, Bool.or_self]
end
theorem b_repr (hg : X.A.guards = some []) (hu : X.A.units + 100 < cLine) : CallR X (.builtin "repr") (rBi X.K bRepr) := by
  intro pins s σ H vs us Q I r h
  obtain ⟨bad, ds, k, hd, hb, g, q⟩ := h
  unfold bRepr at g
  split at g
  · rename_i d
    obtain ⟨v, rfl, h1⟩ := hd.one
    obtain ⟨⟨g1, g2, g3⟩, g4⟩ := g
    obtain ⟨u, rfl, ru⟩ := vals1 r
    have fin : ∀ (h' : Heap) (w : Tok) (tk : Nat), (∀ b o, s.heap.get? b = some o → h'.get? b = some o) → EP X pins σ Q (.str d.shown w) { s with heap := h', toks := tk } := fun h' w tk hk =>
      ⟨.str d.shown, H, I.kept hk, ⟨_, rfl⟩, q _ _ _ .str g4⟩
    have big : ∀ (a : Addr), v = .ref a → wpAny (model X.prog X.w) X.A (call (.builtin "repr") [u]) (EP X pins σ Q) X.xe s := fun a e => by
      subst e
      obtain ⟨as, rr⟩ := Dp.reads I d _ u h1.dp ru
      obtain rfl := ru
      exact repr_of_reads' rr g1 (fun z => by rw [nodict d h1] at z; cases z) hg (by omega) (fun _ _ e => e) fin g3
    cases d with
    | none =>
      obtain rfl := h1.non
      obtain rfl := ru
      exact PySem.P.repr_of_none (fin s.heap _ _ fun _ _ e => e)
    | bool b =>
      obtain rfl := h1.bl
      obtain rfl := ru
      exact PySem.P.repr_of_bool (fin s.heap _ _ fun _ _ e => e)
    | int i =>
      obtain rfl := h1.int
      obtain ⟨t, rfl⟩ := ru
      exact PySem.P.repr_of_int (of_decide_eq_true g1) (fin s.heap _ _ fun _ _ e => e)
    | str x =>
      obtain rfl := h1.str
      obtain ⟨t, rfl⟩ := ru
      exact PySem.P.repr_of_str (fin s.heap _ _ fun _ _ e => e) g3
    | list xs => obtain ⟨a, vs, e, _⟩ := h1.list; exact big a e
    | tuple xs => obtain ⟨a, vs, e, _⟩ := h1.tup; exact big a e
    | dict kvs => cases h1 with | dv h => cases h
  · exact g.elim
end
end DL
/-! DL7: expressions. -/
namespace DL
open PySem PySem.Spec PyProof.Rows L2
def FL (F : Addr → Prop) (as : List Addr) (a : Addr) : Prop := F a ∨ a ∈ as
/-- results in hand: as, the lists that they alone hold -/
inductive Hs (K : PySem.W.Frag) (H : Hp) (bad : Addr → Prop) (σ : St) : List V → List Rs → List Addr → Prop
  | nil : Hs K H bad σ [] [] []
  | val {v r vs rs as} : R1 K H bad σ v r → (∀ xs, r ≠ .own xs) → Hs K H bad σ vs rs as → Hs K H bad σ (v :: vs) (r :: rs) as
  | own {a ws xs vs rs as} : H a = some (.lst ws) → DVs K H bad ws xs → a ∉ as → Hs K H bad σ vs rs as → Hs K H bad σ (.ref a :: vs) (.own xs :: rs) (a :: as)
def tDH (c : Cf) (n : Nat) (w : DTR) : TA := fun σ H Q => ∃ F ρ E Qd, Rp c.K c.IO F H σ ρ ∧ w E ρ Qd ∧ XC c F E σ ρ H ∧
  ∀ vs H' ρ' rs as, vs.length = n → Nx σ ρ H σ ρ' H' → Rp c.K c.IO (FL F as) H' σ ρ' → Hs c.K H' (Bad (FL F as) σ ρ') σ vs rs as → (∀ a ∈ as, ¬ F a ∧ H a = none) → Qd rs ρ' → Q vs H'
section
variable {X : Cx} {c : Cf} {K : PySem.W.Frag} {IO : Nat → Option Addr} {F G : Addr → Prop} {bad : Addr → Prop} {H H1 H2 H' : Hp} {σ : St} {ρ ρ1 ρ2 : Rho} {v : V} {r : Rs} {E : Xn → Prop}
  {e a b : Expr} {es : List Expr} {pos : Pos} {w wa wb wc : DTE}
theorem XC.more (h : XC c F E σ ρ H) (s : ∀ a, F a → G a) : XC c G E σ ρ H := fun cls dx H' x k ok e => h cls dx H' x k (by
  obtain ⟨C, f, h1, h2, h3⟩ := ok
  refine ⟨C, f, h1, h2, ?_⟩
  split at h3
  · exact h3
  · obtain ⟨p, v, e1, e2, e3⟩ := h3
    exact ⟨p, v, e1, e2, e3.mono fun b o q nb => ⟨q, fun z => nb (s b z)⟩⟩) e
theorem bad_more (s : ∀ a, G a → F a) {a : Addr} (h : ¬ Bad F σ ρ a) : ¬ Bad G σ ρ a := fun q => h (q.imp (s a) id)
theorem DV.less {d : D} (h : DV K H (Bad F σ ρ) v d) (s : ∀ a, G a → F a) : DV K H (Bad G σ ρ) v d := h.mono fun a o e nb => ⟨e, bad_more s nb⟩
theorem DVs.less {d : List D} {v : List V} (h : DVs K H (Bad F σ ρ) v d) (s : ∀ a, G a → F a) : DVs K H (Bad G σ ρ) v d := h.mono fun a o e nb => ⟨e, bad_more s nb⟩
theorem R1.less (h : R1 K H (Bad F σ ρ) σ v r) (s : ∀ a, G a → F a) : R1 K H (Bad G σ ρ) σ v r := by
  cases r with
  | dat d => exact DV.less h s
  | own xs => obtain ⟨a, vs, h1, h2, h3⟩ := h; exact ⟨a, vs, h1, h2, h3.less s⟩
  | ref i => exact h
/-- a later state in which there are further lists in hand -/
theorem Nx.badL {as : List Addr} (n : Nx σ ρ H σ ρ1 H1) (fr : ∀ a ∈ as, H a = none) : ∀ a o, H a = some o → ¬ Bad F σ ρ a → H1 a = some o ∧ ¬ Bad (FL F as) σ ρ1 a := fun a o h nb => by
  obtain ⟨h1, h2⟩ := n.bad (F := F) a o h nb
  refine ⟨h1, fun q => ?_⟩
  rcases q with (q | q) | q
  · exact h2 (.inl q)
  · rw [fr a q] at h; cases h
  · exact h2 (.inr q)
theorem R1.nxL {as : List Addr} (h : R1 K H (Bad F σ ρ) σ v r) (hn : ∀ xs, r ≠ .own xs) (n : Nx σ ρ H σ ρ1 H1) (fr : ∀ a ∈ as, H a = none) : R1 K H1 (Bad (FL F as) σ ρ1) σ v r := by
  cases r with
  | dat d => exact DV.mono (n.badL fr) _ _ h
  | own xs => exact (hn xs rfl).elim
  | ref i => exact h
theorem FL_own {x : Addr} {xs : List D} {as : List Addr} : FL (FF F (.ref x) (.own xs)) as = FL F (x :: as) := by
  funext b
  apply propext
  constructor
  · rintro ((q | q) | q)
    · exact .inl q
    · cases q; exact .inr (by simp)
    · exact .inr (by simp [q])
  · rintro (q | q)
    · exact .inl (.inl q)
    · rcases List.mem_cons.mp q with rfl | q
      · exact .inl (.inr rfl)
      · exact .inr q
theorem FL_nil : FL F [] = F := by funext b; simp [FL]
theorem d_nil : PA X [] (tDH c 0 (eL [])) := (pa_nil (X := X)).imp fun σ H Q ⟨F, ρ, E, Qd, rp, hw, xc, k⟩ =>
  k [] H ρ [] [] rfl Nx.refl (by rw [FL_nil]; exact rp) .nil (fun _ z => absurd z (by simp)) hw
theorem cons_imp {n : Nat} {w : W4} {ws : List W4} (σ : St) (H : Hp) (Q : List V → Hp → Prop) (h : tDH c (n + 1) (eL (w :: ws)) σ H Q) : tCons (tD c w.e) (tDH c n (eL ws)) σ H Q := by
  obtain ⟨F, ρ, E, Qd, rp, hw, xc, k⟩ := h
  refine ⟨F, ρ, E, _, rp, hw, xc, fun v H1 ρ1 r n1 ok1 f1 q1 => ?_⟩
  refine ⟨FF F v r, ρ1, E, _, ok1.rp, q1, (xc.nx n1).more fun a q => .inl q, fun vs H2 ρ2 rs as hl n2 rp2 hs2 fr2 q2 => ?_⟩
  cases r with
  | dat d =>
    have r1 := ok1.r1
    rw [FF_dat] at r1 rp2 hs2 fr2
    exact k _ _ _ _ as (by simp [hl]) (n1.trans n2) rp2 (.val (R1.nxL r1 (by simp) n2 fun a q => (fr2 a q).2) (by simp) hs2) (fun a q => ⟨(fr2 a q).1, n1.fresh (fr2 a q).2⟩) q2
  | ref i =>
    have r1 := ok1.r1
    rw [FF_ref] at r1 rp2 hs2 fr2
    exact k _ _ _ _ as (by simp [hl]) (n1.trans n2) rp2 (.val (R1.nxL r1 (by simp) n2 fun a q => (fr2 a q).2) (by simp) hs2) (fun a q => ⟨(fr2 a q).1, n1.fresh (fr2 a q).2⟩) q2
  | own xs =>
    obtain ⟨x, ws, rfl, e2, e3⟩ := ok1.r1
    have nO : ¬ Own σ ρ1 x := fun q => ok1.rp.own_ne q (.inr rfl)
    have nx : x ∉ as := fun q => (fr2 x q).1 (.inr rfl)
    have e3' : DVs c.K H2 (Bad (FL (FF F (.ref x) (.own xs)) as) σ ρ2) ws xs := e3.mono (n2.badL fun a q => (fr2 a q).2)
    rw [FL_own] at rp2 hs2 e3'
    refine k _ _ _ _ (x :: as) (by simp [hl]) (n1.trans n2) rp2 (.own (n2.keep _ _ e2 nO) e3' nx hs2) (fun a q => ?_) q2
    rcases List.mem_cons.mp q with rfl | q
    · exact ⟨ok1.nf _ rfl, f1 _ rfl⟩
    · exact ⟨fun z => (fr2 a q).1 (.inl z), n1.fresh (fr2 a q).2⟩
theorem d_cons {n : Nat} {w : W4} {ws : List W4} (ha : PE X e (tD c w.e)) (hr : PA X es (tDH c n (eL ws))) (hs : starEach (e :: es) X.env = (false, eval e X.env) :: starEach es X.env) : PA X (e :: es) (tDH c (n + 1) (eL (w :: ws))) :=
  (pa_cons ha hr hs).imp cons_imp
end
end DL
/-! DL8: expressions, on. -/
namespace DL
open PySem PySem.Spec PyProof.Rows L2
section
variable {X : Cx} {c : Cf} {K : PySem.W.Frag} {IO : Nat → Option Addr} {F G : Addr → Prop} {bad : Addr → Prop} {H H1 H2 H' : Hp} {σ : St} {ρ ρ1 ρ2 : Rho} {v : V} {r : Rs} {E : Xn → Prop}
  {e a b : Expr} {es : List Expr} {pos : Pos} {w wa wb wc : DTE}
theorem Hs.r1s {as : List Addr} {vs : List V} {rs : List Rs} (p : Rp K IO (FL F as) H σ ρ) (fr : ∀ a ∈ as, ¬ F a) (h : Hs K H (Bad (FL F as) σ ρ) σ vs rs as) : R1s K H (Bad F σ ρ) σ vs (rs.map rd) := by
  have s : ∀ a, F a → FL F as a := fun a q => .inl q
  suffices hh : ∀ bs, (∀ x ∈ bs, x ∈ as) → ∀ vs rs, Hs K H (Bad (FL F as) σ ρ) σ vs rs bs → R1s K H (Bad F σ ρ) σ vs (rs.map rd) from hh as (fun _ q => q) vs rs h
  intro bs hb vs rs h
  induction h with
  | nil => exact .nil
  | val h1 h2 _ ih =>
    refine .cons ?_ (fun xs => rd_ne xs) (ih hb)
    rename_i r _ _ _ _
    have q := R1.less h1 s
    cases r with
    | own xs => exact (h2 xs rfl).elim
    | dat d => exact q
    | ref i => exact q
  | own h1 h2 h3 _ ih =>
    rename_i x ws xs vs rs bs' _
    refine .cons ?_ (fun xs => rd_ne xs) (ih fun y q => hb y (List.mem_cons_of_mem _ q))
    have hx := hb x List.mem_cons_self
    exact .lst (.inl ⟨.inl h1, fun q => by
      rcases q with q | q
      · exact fr x hx q
      · exact p.own_ne q (.inr hx)⟩) (h2.less s)
theorem esc_rd {k : D → Rho → Prop} : esc (rd r) ρ k = esc r ρ k := by cases r <;> rfl
theorem escs_rd : ∀ (rs : List Rs) (ρ : Rho) (k : List D → Rho → Prop), escs (rs.map rd) ρ k = escs rs ρ k
  | [], _, _ => rfl
  | r :: rs, ρ, k => by
    show esc (rd r) ρ _ = esc r ρ _
    rw [esc_rd]
    congr 1
    funext d ρ1
    exact escs_rd rs ρ1 _
theorem deref_rd : deref ρ (rd r) = deref ρ r := by cases r <;> rfl
theorem derefs_rd : ∀ rs : List Rs, derefs ρ (rs.map rd) = derefs ρ rs
  | [] => rfl
  | r :: rs => by
    show (match deref ρ (rd r), derefs ρ (rs.map rd) with | some d, some ds => some (d :: ds) | _, _ => none) = _
    rw [deref_rd, derefs_rd rs]
    rfl
theorem R1.rsok (p : Rp K IO F H σ ρ) (h : R1 K H (Bad F σ ρ) σ v r) (hn : ∀ xs, r ≠ .own xs) : RsOk K IO F H σ ρ v r := by
  cases r with
  | dat d => exact .ofDat p h
  | ref i => exact .ofRef p h
  | own xs => exact (hn xs rfl).elim
theorem escs_ok : ∀ (rs : List Rs) {vs : List V} {ρ : Rho} {k : List D → Rho → Prop}, Rp K IO F H σ ρ → R1s K H (Bad F σ ρ) σ vs rs → escs rs ρ k →
    ∃ ds ρ', k ds ρ' ∧ Rp K IO F H σ ρ' ∧ DVs K H (Bad F σ ρ') vs ds ∧ Nx σ ρ H σ ρ' H
  | [], _, ρ, _, p, h, e => by cases h; exact ⟨[], ρ, e, p, .nil, Nx.refl⟩
  | r :: rs, _, ρ, k, p, h, e => by
    cases h with
    | cons h1 h2 h3 =>
      obtain ⟨d, ρ1, e1, p1, d1, n1⟩ := esc_ok (h1.rsok p h2) (show esc r ρ _ from e)
      obtain ⟨ds, ρ2, e2, p2, d2, n2⟩ := escs_ok rs p1 (h3.nx n1) e1
      exact ⟨d :: ds, ρ2, e2, p2, .cons (n2.dv d1) d2, n1.trans n2⟩
theorem derefs_ok : ∀ {rs : List Rs} {vs : List V} {ds : List D}, Rp K IO F H σ ρ → R1s K H (Bad F σ ρ) σ vs rs → derefs ρ rs = some ds → DRs K H (Bad F σ ρ) vs ds
  | [], _, _, p, h, e => by cases h; cases e; exact .nil
  | r :: rs, _, _, p, h, e => by
    cases h with
    | cons h1 h2 h3 =>
      simp only [derefs] at e
      split at e
      · rename_i d ds q1 q2
        cases e
        exact .cons (deref_ok p h1 q1) (derefs_ok p h3 q2)
      · cases e
/-! ### leaves -/
theorem d_val {d : D} (h : PE X e (tC v)) (dv : ∀ H bad, DV c.K H bad v d) : PE X e (tD c fun _ ρ Q => Q (.dat d) ρ) :=
  h.imp fun σ H Q ⟨F, ρ, E, Qd, rp, hw, xc, k⟩ => k v H ρ _ Nx.refl (.ofDat rp (dv _ _)) (fun _ q => q.elim) hw
theorem d_var {i : Nat} (h : PE X e (tVar i)) : PE X e (tD c fun _ ρ Q => match gt ρ i with
    | some (.dat d) => Q (.dat d) ρ
    | some (.own _ _) => Q (.ref i) ρ
    | none => False) := by
  refine h.imp fun σ H Q ⟨F, ρ, E, Qd, rp, hw, xc, k⟩ => ?_
  dsimp only at hw
  split at hw
  · rename_i d q
    obtain ⟨v, e1, e2⟩ := rp.dat i d q
    exact ⟨v, e1, k v H ρ _ Nx.refl (.ofDat rp e2) (fun _ q => q.elim) hw⟩
  · rename_i io xs q
    obtain ⟨a, vs, e1, _⟩ := rp.own i io xs q
    exact ⟨_, e1, k _ H ρ _ Nx.refl (.ofRef rp e1) (fun _ q => q.elim) hw⟩
  · exact hw.elim
/-! ### two operands -/
theorem nf_of (h : ResB K (Bad F σ ρ) H v H' r) : ∀ a, fr v r a → H a = none := fun a q => by
  cases r with
  | own xs =>
    obtain ⟨_, x, vs, e1, e2, _⟩ := h
    have e3 : v = .ref a := q
    rw [e1] at e3
    cases e3
    exact e2
  | dat d => exact q.elim
  | ref i => exact q.elim
theorem d_two {rl : R2} {Gm : D → D → (Rs → Prop) → Prop}
    (hr : ∀ x y H Q bad dx dy k, DR c.K H bad x dx → DR c.K H bad y dy → (∀ a, bad a → H a ≠ none) → Gm dx dy k → (∀ v H' r, ResB c.K bad H v H' r → k r → Q v H') → rl x y H Q)
    (h : PE X e (tOp rl (tD c wa) (tD c wb))) : PE X e (tD c fun E ρ Q => wa E ρ fun r ρ1 => wb E ρ1 fun s ρ2 => with2 ρ2 r s fun x y => Gm x y fun z => Q z ρ2) := by
  refine h.imp fun σ H Q ⟨F, ρ, E, Qd, rp, hw, xc, k⟩ => ?_
  refine ⟨F, ρ, E, _, rp, hw, xc, fun v H1 ρ1 r n1 ok1 f1 q1 => ?_⟩
  refine ⟨F, ρ1, E, _, ok1.rp', q1, xc.nx n1, fun u H2 ρ2 s n2 ok2 f2 q2 => ?_⟩
  simp only [with2] at q2
  split at q2
  · rename_i x y ex ey
    rw [← deref_rd] at ex ey
    have hx := deref_ok ok2.rp' ((ok1.r1').nx (fun xs => rd_ne xs) n2) ex
    have hy := deref_ok ok2.rp' ok2.r1' ey
    refine hr _ _ _ _ _ _ _ _ hx hy (fun a q => ok2.rp'.bad_dom q) q2 fun v' H' r' rb q' => ?_
    obtain ⟨n3, ok3⟩ := ResB.ok ok2.rp' rb
    exact k _ _ _ _ ((n1.trans n2).trans n3) ok3 (fun a q => (n1.trans n2).fresh (nf_of rb a q)) q'
  · exact q2.elim
theorem d_op2 {o : O2} (ha : PE X a (tD c wa)) (hb : PE X b (tD c wb)) (hK : X.K = c.K) : PE X (.BinOp a o.op b pos) (tD c fun E ρ Q => wa E ρ fun r ρ1 => wb E ρ1 fun s ρ2 => with2 ρ2 r s fun x y => op2D o x y fun z => Q z ρ2) :=
  d_two (rl := rD2 X.K (op2D o)) (fun x y H Q bad dx dy k h1 h2 h3 h4 h5 => by rw [hK]; exact ⟨bad, dx, dy, k, h1, h2, h3, h4, h5⟩) (pe_op (op2_ok o) ha hb)
theorem d_cmp {o : C2} (ha : PE X a (tD c wa)) (hb : PE X b (tD c wb)) (hK : X.K = c.K) (hu : X.A.units + 65 < cLine) (hm : behindInMarks o.op b = false) :
    PE X (.Compare a [o.op] [b] pos) (tD c fun E ρ Q => wa E ρ fun r ρ1 => wb E ρ1 fun s ρ2 => with2 ρ2 r s fun x y => cmpD o x y fun z => Q (.dat (.bool z)) ρ2) :=
  d_two (Gm := fun x y k => cmpD o x y fun z => k (.dat (.bool z))) (rl := rC2 X.K (cmpD o)) (fun x y H Q bad dx dy k h1 h2 h3 h4 h5 => by rw [hK]; exact ⟨bad, dx, dy, _, h1, h2, h4, fun b kb => h5 _ _ _ .bl kb⟩) (pe_cmpR (cmp_ok hu o) ha hb hm)
theorem d_idx (ha : PE X a (tD c wa)) (hb : PE X b (tD c wb)) (hK : X.K = c.K) (hs : PlainIx b) :
    PE X (.Subscript a b pos) (tD c fun E ρ Q => wa E ρ fun r ρ1 => wb E ρ1 fun s ρ2 => with2 ρ2 r s fun x y => idxD x y fun z => Q (.dat z) ρ2) :=
  d_two (Gm := fun x y k => idxD x y fun z => k (.dat z)) (rl := rI2 X.K) (fun x y H Q bad dx dy k h1 h2 h3 h4 h5 => by rw [hK]; exact ⟨bad, dx, dy, _, h1, h2, h4, fun v d hv kd => h5 _ _ _ (.same hv) kd⟩) (pe_ix idx_ok ha hb hs)
/-! ### one operand -/
theorem DR.none_iff {d : D} {x : V} (h : DR K H bad x d) : decide (x = .non) = isNone d := by
  cases d with
  | none => obtain rfl := h.non; rfl
  | bool b => obtain rfl := h.bl; rfl
  | int b => obtain rfl := h.int; rfl
  | str b => obtain rfl := h.str; rfl
  | list xs => obtain ⟨a, vs, rfl, _⟩ := h.list; rfl
  | tuple xs => obtain ⟨a, vs, rfl, _⟩ := h.tup; rfl
  | dict _ => cases h with | dv h => cases h
theorem d_isN {j pos'} (ha : PE X a (tD c wa)) : PE X (.Compare a [.Is] [.Constant .none j pos'] pos) (tD c fun E ρ Q => wa E ρ fun r ρ1 => with1 ρ1 r fun x => Q (.dat (.bool (isNone x))) ρ1) := by
  refine (pe_cmp (pc_isN ha) rfl).imp fun σ H Q ⟨F, ρ, E, Qd, rp, hw, xc, k⟩ => ⟨F, ρ, E, _, rp, hw, xc, fun v H1 ρ1 r n1 ok1 f1 q1 => ?_⟩
  simp only [with1] at q1
  split at q1
  · rename_i x ex
    rw [← deref_rd] at ex
    rw [(deref_ok ok1.rp' ok1.r1' ex).none_iff]
    exact k _ _ _ _ n1 (.ofDat ok1.rp' (.bl _)) (fun _ q => q.elim) q1
  · exact q1.elim
theorem d_notN {j pos'} (ha : PE X a (tD c wa)) : PE X (.Compare a [.IsNot] [.Constant .none j pos'] pos) (tD c fun E ρ Q => wa E ρ fun r ρ1 => with1 ρ1 r fun x => Q (.dat (.bool (!isNone x))) ρ1) := by
  refine (pe_cmp (pc_notN ha) rfl).imp fun σ H Q ⟨F, ρ, E, Qd, rp, hw, xc, k⟩ => ⟨F, ρ, E, _, rp, hw, xc, fun v H1 ρ1 r n1 ok1 f1 q1 => ?_⟩
  simp only [with1] at q1
  split at q1
  · rename_i x ex
    rw [← deref_rd] at ex
    rw [(deref_ok ok1.rp' ok1.r1' ex).none_iff]
    exact k _ _ _ _ n1 (.ofDat ok1.rp' (.bl _)) (fun _ q => q.elim) q1
  · exact q1.elim
theorem d_neg (ha : PE X a (tD c wa)) : PE X (.UnaryOp .USub a pos) (tD c fun E ρ Q => wa E ρ fun r ρ1 => match r with
    | .dat (.int i) => Q (.dat (.int (-i))) ρ1
    | _ => False) := by
  refine (pe_un un_neg ha).imp fun σ H Q ⟨F, ρ, E, Qd, rp, hw, xc, k⟩ => ⟨F, ρ, E, _, rp, hw, xc, fun v H1 ρ1 r n1 ok1 f1 q1 => ?_⟩
  split at q1
  · rename_i i
    have h1 := ok1.r1'
    obtain rfl := (DR.dv h1).int
    exact ⟨i, rfl, k _ _ _ _ n1 (.ofDat ok1.rp' (.int _)) (fun _ q => q.elim) q1⟩
  · exact q1.elim
theorem d_not (ha : PE X a (tD c wa)) : PE X (.UnaryOp .Not a pos) (tD c fun E ρ Q => wa E ρ fun r ρ1 => match r with
    | .dat (.bool b) => Q (.dat (.bool (!b))) ρ1
    | _ => False) := by
  refine (pe_not ha).imp fun σ H Q ⟨F, ρ, E, Qd, rp, hw, xc, k⟩ => ⟨F, ρ, E, _, rp, hw, xc, fun v H1 ρ1 r n1 ok1 f1 q1 => ?_⟩
  split at q1
  · rename_i i
    have h1 := ok1.r1'
    obtain rfl := (DR.dv h1).bl
    exact ⟨i, rfl, k _ _ _ _ n1 (.ofDat ok1.rp' (.bl _)) (fun _ q => q.elim) q1⟩
  · exact q1.elim
/-! ### tests -/
theorem t_val (h : PE X e (tD c w)) (he : ∀ whole, isTrue e X.env whole = (do let v ← whole; standAt e.pos; holding [v] (truthy v))) : PT X e (tDT c (asT w)) := by
  refine (pt_val h he).imp fun σ H Q ⟨F, ρ, E, Qd, rp, hw, xc, k⟩ => ⟨F, ρ, E, _, rp, hw, xc, fun v H1 ρ1 r n1 ok1 f1 q1 => ?_⟩
  split at q1
  · rename_i b
    have h1 := ok1.r1'
    obtain rfl := (DR.dv h1).bl
    exact ⟨b, rfl, k _ _ _ n1 ok1.rp' q1⟩
  · exact q1.elim
theorem t_of {t : TE} (h : PT X e (tTest t)) (i : ∀ σ H Q, tD c w σ H Q → t σ H Q) : PT X e (tDT c (asT w)) := by
  refine h.imp fun σ H Q ⟨F, ρ, E, Qd, rp, hw, xc, k⟩ => i _ _ _ ⟨F, ρ, E, _, rp, hw, xc, fun v H1 ρ1 r n1 ok1 f1 q1 => ?_⟩
  split at q1
  · rename_i b
    have h1 := ok1.r1'
    obtain rfl := (DR.dv h1).bl
    exact ⟨b, rfl, k _ _ _ n1 ok1.rp' q1⟩
  · exact q1.elim
theorem i_two {rl : R2} {Gm : D → D → (Rs → Prop) → Prop}
    (hr : ∀ x y H Q bad dx dy k, DR c.K H bad x dx → DR c.K H bad y dy → (∀ a, bad a → H a ≠ none) → Gm dx dy k → (∀ v H' r, ResB c.K bad H v H' r → k r → Q v H') → rl x y H Q) (σ : St) (H : Hp) (Q : VK)
    (h : tD c (fun E ρ Q => wa E ρ fun r ρ1 => wb E ρ1 fun s ρ2 => with2 ρ2 r s fun x y => Gm x y fun z => Q z ρ2) σ H Q) : tOp rl (tD c wa) (tD c wb) σ H Q := by
  obtain ⟨F, ρ, E, Qd, rp, hw, xc, k⟩ := h
  refine ⟨F, ρ, E, _, rp, hw, xc, fun v H1 ρ1 r n1 ok1 f1 q1 => ?_⟩
  refine ⟨F, ρ1, E, _, ok1.rp', q1, xc.nx n1, fun u H2 ρ2 s n2 ok2 f2 q2 => ?_⟩
  simp only [with2] at q2
  split at q2
  · rename_i x y ex ey
    rw [← deref_rd] at ex ey
    have hx := deref_ok ok2.rp' ((ok1.r1').nx (fun xs => rd_ne xs) n2) ex
    have hy := deref_ok ok2.rp' ok2.r1' ey
    refine hr _ _ _ _ _ _ _ _ hx hy (fun a q => ok2.rp'.bad_dom q) q2 fun v' H' r' rb q' => ?_
    obtain ⟨n3, ok3⟩ := ResB.ok ok2.rp' rb
    exact k _ _ _ _ ((n1.trans n2).trans n3) ok3 (fun a q => (n1.trans n2).fresh (nf_of rb a q)) q'
  · exact q2.elim
theorem t_cmp {o : C2} (ha : PE X a (tD c wa)) (hb : PE X b (tD c wb)) (hK : X.K = c.K) (hu : X.A.units + 65 < cLine) (hm : behindInMarks o.op b = false) :
    PT X (.Compare a [o.op] [b] pos) (tDT c (asT fun E ρ Q => wa E ρ fun r ρ1 => wb E ρ1 fun s ρ2 => with2 ρ2 r s fun x y => cmpD o x y fun z => Q (.dat (.bool z)) ρ2)) :=
  t_of (pt_cmpR (cmp_ok hu o) ha hb hm) (i_two (Gm := fun x y k => cmpD o x y fun z => k (.dat (.bool z))) (rl := rC2 X.K (cmpD o)) fun x y H Q bad dx dy k h1 h2 h3 h4 h5 => by rw [hK]; exact ⟨bad, dx, dy, _, h1, h2, h4, fun b kb => h5 _ _ _ .bl kb⟩)
theorem t_isN {j pos'} (ha : PE X a (tD c wa)) : PT X (.Compare a [.Is] [.Constant .none j pos'] pos) (tDT c (asT fun E ρ Q => wa E ρ fun r ρ1 => with1 ρ1 r fun x => Q (.dat (.bool (isNone x))) ρ1)) := by
  refine (pt_cmp (pc_isN ha) rfl).imp fun σ H Q ⟨F, ρ, E, Qd, rp, hw, xc, k⟩ => ⟨F, ρ, E, _, rp, hw, xc, fun v H1 ρ1 r n1 ok1 f1 q1 => ?_⟩
  simp only [with1] at q1
  split at q1
  · rename_i x ex
    rw [← deref_rd] at ex
    exact ⟨_, rfl, by rw [(deref_ok ok1.rp' ok1.r1' ex).none_iff]; exact k _ _ _ n1 ok1.rp' q1⟩
  · exact q1.elim
theorem t_notN {j pos'} (ha : PE X a (tD c wa)) : PT X (.Compare a [.IsNot] [.Constant .none j pos'] pos) (tDT c (asT fun E ρ Q => wa E ρ fun r ρ1 => with1 ρ1 r fun x => Q (.dat (.bool (!isNone x))) ρ1)) := by
  refine (pt_cmp (pc_notN ha) rfl).imp fun σ H Q ⟨F, ρ, E, Qd, rp, hw, xc, k⟩ => ⟨F, ρ, E, _, rp, hw, xc, fun v H1 ρ1 r n1 ok1 f1 q1 => ?_⟩
  simp only [with1] at q1
  split at q1
  · rename_i x ex
    rw [← deref_rd] at ex
    exact ⟨_, rfl, by rw [(deref_ok ok1.rp' ok1.r1' ex).none_iff]; exact k _ _ _ n1 ok1.rp' q1⟩
  · exact q1.elim
variable {ta tb : DTT} {rest : List Expr} {wh : List Expr}
def andT (ta tb : DTT) : DTT := fun E ρ Q => ta E ρ fun c ρ1 => (if c = true then tb E ρ1 Q else Q false ρ1)
def orT (ta tb : DTT) : DTT := fun E ρ Q => ta E ρ fun c ρ1 => (if c = true then Q true ρ1 else tb E ρ1 Q)
theorem _root_.L2.PW.imp {X : Cx} {e : Expr} {t t' : TT} (h : PW X e t) (i : ∀ σ H Q, t' σ H Q → t σ H Q) : PW X e t' := ⟨fun wh pins s σ H Q I q => h.run wh pins s σ H Q I (i _ _ _ q)⟩
theorem t_and (ha : PT X a (tDT c ta)) (hb : PW X (.BoolOp .And (b :: rest) pos) (tDT c tb)) : PW X (.BoolOp .And (a :: b :: rest) pos) (tDT c (andT ta tb)) := by
  refine (pw_and ha hb).imp fun σ H Q ⟨F, ρ, E, Qd, rp, hw, xc, k⟩ => ⟨F, ρ, E, _, rp, hw, xc, fun v H1 ρ1 n1 p1 q1 => ?_⟩
  cases v with
  | true => exact ⟨F, ρ1, E, _, p1, q1, xc.nx n1, fun v H2 ρ2 n2 p2 q2 => k _ _ _ (n1.trans n2) p2 q2⟩
  | false => exact k _ _ _ n1 p1 q1
theorem t_or (ha : PT X a (tDT c ta)) (hb : PW X (.BoolOp .Or (b :: rest) pos) (tDT c tb)) : PW X (.BoolOp .Or (a :: b :: rest) pos) (tDT c (orT ta tb)) := by
  refine (pw_or ha hb).imp fun σ H Q ⟨F, ρ, E, Qd, rp, hw, xc, k⟩ => ⟨F, ρ, E, _, rp, hw, xc, fun v H1 ρ1 n1 p1 q1 => ?_⟩
  cases v with
  | false => exact ⟨F, ρ1, E, _, p1, q1, xc.nx n1, fun v H2 ρ2 n2 p2 q2 => k _ _ _ (n1.trans n2) p2 q2⟩
  | true => exact k _ _ _ n1 p1 q1
theorem t_not (ha : PT X a (tDT c ta)) : PT X (.UnaryOp .Not a pos) (tDT c fun E ρ Q => ta E ρ fun b ρ1 => Q (!b) ρ1) := by
  refine (pt_not ha).imp fun σ H Q ⟨F, ρ, E, Qd, rp, hw, xc, k⟩ => ⟨F, ρ, E, _, rp, hw, xc, fun v H1 ρ1 n1 p1 q1 => k _ _ _ n1 p1 q1⟩
/-! .. as values -/
theorem d_and (ha : PE X a (tD c wa)) (hb : PE X (.BoolOp .And (b :: rest) pos) (tD c wb)) : PE X (.BoolOp .And (a :: b :: rest) pos) (tD c fun E ρ Q => wa E ρ fun r ρ1 => (match r with
      | .dat (.bool c) => if c = true then wb E ρ1 Q else Q (.dat (.bool false)) ρ1
      | _ => False)) := by
  refine (pe_and ha hb).imp fun σ H Q ⟨F, ρ, E, Qd, rp, hw, xc, k⟩ => ⟨F, ρ, E, _, rp, hw, xc, fun v H1 ρ1 r n1 ok1 f1 q1 => ?_⟩
  split at q1
  · rename_i i
    have h1 := ok1.r1'
    obtain rfl := (DR.dv h1).bl
    refine ⟨i, rfl, ?_⟩
    cases i with
    | true => exact ⟨F, ρ1, E, _, ok1.rp', q1, xc.nx n1, fun v H2 ρ2 r n2 p2 f2 q2 => k _ _ _ _ (n1.trans n2) p2 (fun a q => n1.fresh (f2 a q)) q2⟩
    | false => exact k _ _ _ _ n1 (.ofDat ok1.rp' (.bl _)) (fun _ q => q.elim) q1
  · exact q1.elim
theorem d_or (ha : PE X a (tD c wa)) (hb : PE X (.BoolOp .Or (b :: rest) pos) (tD c wb)) : PE X (.BoolOp .Or (a :: b :: rest) pos) (tD c fun E ρ Q => wa E ρ fun r ρ1 => (match r with
      | .dat (.bool c) => if c = true then Q (.dat (.bool true)) ρ1 else wb E ρ1 Q
      | _ => False)) := by
  refine (pe_or ha hb).imp fun σ H Q ⟨F, ρ, E, Qd, rp, hw, xc, k⟩ => ⟨F, ρ, E, _, rp, hw, xc, fun v H1 ρ1 r n1 ok1 f1 q1 => ?_⟩
  split at q1
  · rename_i i
    have h1 := ok1.r1'
    obtain rfl := (DR.dv h1).bl
    refine ⟨i, rfl, ?_⟩
    cases i with
    | false => exact ⟨F, ρ1, E, _, ok1.rp', q1, xc.nx n1, fun v H2 ρ2 r n2 p2 f2 q2 => k _ _ _ _ (n1.trans n2) p2 (fun a q => n1.fresh (f2 a q)) q2⟩
    | true => exact k _ _ _ _ n1 (.ofDat ok1.rp' (.bl _)) (fun _ q => q.elim) q1
  · exact q1.elim
theorem d_ife {q : Expr} (hq : PT X q (tDT c ta)) (ha : PE X a (tD c wa)) (hb : PE X b (tD c wb)) : PE X (.IfExp q a b pos) (tD c fun E ρ Q => ta E ρ fun q ρ1 => if q = true then wa E ρ1 Q else wb E ρ1 Q) := by
  refine (pe_ifExp hq ha hb).imp fun σ H Q ⟨F, ρ, E, Qd, rp, hw, xc, k⟩ => ⟨F, ρ, E, _, rp, hw, xc, fun v H1 ρ1 n1 p1 q1 => ?_⟩
  cases v with
  | true => exact ⟨F, ρ1, E, _, p1, q1, xc.nx n1, fun v H2 ρ2 r n2 p2 f2 q2 => k _ _ _ _ (n1.trans n2) p2 (fun a q => n1.fresh (f2 a q)) q2⟩
  | false => exact ⟨F, ρ1, E, _, p1, q1, xc.nx n1, fun v H2 ρ2 r n2 p2 f2 q2 => k _ _ _ _ (n1.trans n2) p2 (fun a q => n1.fresh (f2 a q)) q2⟩
end
end DL
/-! DL9: displays, slices, built-ins, calls. -/
namespace DL
open PySem PySem.Spec PyProof.Rows L2
section
variable {X : Cx} {c : Cf} {K : PySem.W.Frag} {IO : Nat → Option Addr} {F G : Addr → Prop} {bad : Addr → Prop} {H H1 H2 H' : Hp} {σ : St} {ρ ρ1 ρ2 : Rho} {v : V} {r : Rs} {E : Xn → Prop}
  {e a b : Expr} {es : List Expr} {pos : Pos} {w wa wb wc : DTE} {wr : DTR} {n : Nat}
theorem sub_FL {as : List Addr} : ∀ a, F a → FL F as a := fun a q => .inl q
/-- all escape -/
theorem all_esc {as : List Addr} {vs : List V} {rs : List Rs} {k : List D → Rho → Prop} (p : Rp K IO (FL F as) H σ ρ) (h : Hs K H (Bad (FL F as) σ ρ) σ vs rs as) (fr : ∀ a ∈ as, ¬ F a ∧ H1 a = none) (e : escs rs ρ k) :
    ∃ ds ρ', k ds ρ' ∧ Rp K IO F H σ ρ' ∧ DVs K H (Bad F σ ρ') vs ds ∧ Nx σ ρ H σ ρ' H :=
  escs_ok _ (p.less sub_FL) (h.r1s p fun a q => (fr a q).1) (by rw [escs_rd]; exact e)
theorem small_line {n : Nat} (h : n ≤ 1000) : n ≤ sizeLine := by rw [sizeLine_eq]; omega
theorem d_tup {k} (hn : n ≤ 1000) (h : PA X es (tDH c n wr)) : PE X (.Tuple es k pos) (tD c fun E ρ Q => wr E ρ fun rs ρ1 => escs rs ρ1 fun ds ρ2 => Q (.dat (.tuple ds)) ρ2) := by
  refine (pe_tup h).imp fun σ H Q ⟨F, ρ, E, Qd, rp, hw, xc, k⟩ => ⟨F, ρ, E, _, rp, hw, xc, fun vs H1 ρ1 rs as hl n1 p1 h1 f1 q1 => ?_⟩
  obtain ⟨ds, ρ2, q2, p2, d2, n2⟩ := all_esc p1 h1 f1 q1
  refine ⟨small_line (by omega), fun p hp => ?_⟩
  obtain ⟨n3, ok3⟩ := ResB.ok p2 (.tup (fun a q => p2.bad_dom q) hp d2)
  exact k _ _ _ _ ((n1.trans n2).trans n3) ok3 (fun _ q => q.elim) q2
theorem d_lst (hn : n ≤ 1000) (h : PA X es (tDH c n wr)) : PE X (.List es pos) (tD c fun E ρ Q => wr E ρ fun rs ρ1 => escs rs ρ1 fun ds ρ2 => Q (.own ds) ρ2) := by
  refine (pe_lst h).imp fun σ H Q ⟨F, ρ, E, Qd, rp, hw, xc, k⟩ => ⟨F, ρ, E, _, rp, hw, xc, fun vs H1 ρ1 rs as hl n1 p1 h1 f1 q1 => ?_⟩
  obtain ⟨ds, ρ2, q2, p2, d2, n2⟩ := all_esc p1 h1 f1 q1
  refine ⟨small_line (by omega), fun p hp => ?_⟩
  obtain ⟨n3, ok3⟩ := ResB.ok p2 (.lst (K := c.K) hp d2)
  exact k _ _ _ _ ((n1.trans n2).trans n3) ok3 (fun a q => (n1.trans n2).fresh (by cases q; exact hp)) q2
theorem d_repL {ns : List Expr} {wn : DTE} {p2 : Pos} (hn : n ≤ 1000) (h : PA X es (tDH c n wr)) (hb : PE X b (tD c wn)) : PE X (.BinOp (.List es p2) .Mult b pos) (tD c fun E ρ Q => wr E ρ fun rs ρ1 => escs rs ρ1 fun ds ρ2 => wn E ρ2 fun r ρ3 => match r with
    | .dat (.int j) => (-(2 ^ 63) ≤ j ∧ j < 2 ^ 63 ∧ LenOk (ds.length * j.toNat)) ∧ Q (.own (List.replicate j.toNat ds).flatten) ρ3
    | _ => False) := by
  refine (pe_op op_rep (pe_lst h) hb).imp fun σ H Q ⟨F, ρ, E, Qd, rp, hw, xc, k⟩ => ⟨F, ρ, E, _, rp, hw, xc, fun vs H1 ρ1 rs as hl n1 p1 h1 f1 q1 => ?_⟩
  obtain ⟨ds, ρ2, q2, p2, d2, n2⟩ := all_esc p1 h1 f1 q1
  refine ⟨small_line (by omega), fun p hp => ?_⟩
  obtain ⟨n3, ok3⟩ := ResB.ok p2 (.lst (K := c.K) hp d2)
  refine ⟨_, ρ2, E, _, ok3.rp, q2, (xc.nx ((n1.trans n2).trans n3)).more (fun a q => .inl q), fun u H3 ρ3 r n4 ok4 f4 q4 => ?_⟩
  split at q4
  · rename_i j
    obtain ⟨x, ws, e1, e2, e3⟩ := ok3.r1
    cases e1
    have nO : ¬ Own σ ρ2 p := fun q => ok3.rp.own_ne q (.inr rfl)
    have e4 := n4.keep _ _ e2 nO
    obtain rfl := (DR.dv ok4.r1').int
    have e5 := n4.dvs e3
    have rp4 : Rp c.K c.IO F H3 σ ρ3 := ok4.rp'.less fun a q => .inl q
    have e6 := e5.less (G := F) fun a q => .inl q
    refine ⟨p, j, ws, rfl, rfl, e4, q4.1.1, q4.1.2.1, by rw [e3.length]; exact q4.1.2.2, fun p' hp' => ?_⟩
    obtain ⟨n5, ok5⟩ := ResB.ok rp4 (.lst (K := c.K) hp' (e6.rep j.toNat))
    exact k _ _ _ _ ((((n1.trans n2).trans n3).trans n4).trans n5) ok5 (fun a q => (((n1.trans n2).trans n3).trans n4).fresh (by cases q; exact hp')) q4.2
  · exact q4.elim
/-! ### built-ins -/
theorem d_bi {g : List D → KR → Prop} {t : TA} (hK : X.K = c.K) (h : PE X e (tCB (rBi X.K g) t)) (ht : ∀ σ H Q, tDH c n wr σ H Q → t σ H Q) : PE X e (tD c fun E ρ Q => wr E ρ fun rs ρ1 => withs ρ1 rs fun ds => g ds fun z => Q z ρ1) := by
  refine h.imp fun σ H Q ⟨F, ρ, E, Qd, rp, hw, xc, k⟩ => ht _ _ _ ⟨F, ρ, E, _, rp, hw, xc, fun vs H1 ρ1 rs as hl n1 p1 h1 f1 q1 => ?_⟩
  simp only [withs] at q1
  split at q1
  · rename_i ds eds
    have p2 := p1.less (G := F) sub_FL
    have hr := h1.r1s p1 fun a q => (f1 a q).1
    rw [← derefs_rd] at eds
    rw [hK]
    refine ⟨_, ds, _, derefs_ok p2 hr eds, fun a q => p2.bad_dom q, q1, fun v H2 r rb q2 => ?_⟩
    obtain ⟨n3, ok3⟩ := ResB.ok p2 rb
    exact k _ _ _ _ (n1.trans n3) ok3 (fun a q => n1.fresh (nf_of rb a q)) q2
  · exact q1.elim
theorem d_is {T : String} {f : D → Bool} {p2 p3 : Pos} (hK : X.K = c.K) (kT : ∀ d, kitB (tyD d) T = some (f d)) (hg : Gl X "isinstance") (hm : X.mg "isinstance" = none) (hgT : Gl X (Str.ofString T)) (hmT : X.mg (Str.ofString T) = none) (hvT : bootBuiltins (Str.ofString T) = some (.type T)) (hnT : Str.ofString T ≠ "__name__")
    (hdT : (Str.ofString T == ("__debug__" : Str)) = false) (ha : PE X a (tD c wa)) (hs1 : starEach [a, .Name (Str.ofString T) p3] X.env = (false, eval a X.env) :: starEach [.Name (Str.ofString T) p3] X.env) :
    PE X (.Call (.Name "isinstance" p2) [a, .Name (Str.ofString T) p3] [] pos) (tD c fun E ρ Q => wa E ρ fun r ρ1 => withs ρ1 [r] fun ds => bIs f ds fun z => Q z ρ1) := by
  have hT : PE X (.Name (Str.ofString T) p3) (tC (.ty T)) := pe_bltn hgT hmT hvT rfl hnT hdT
  refine (pe_callB (b_is kT) hg hm (by decide +kernel) (pa_cons ha (pa_cons hT pa_nil rfl) hs1) (he := hs1)).imp fun σ H Q ⟨F, ρ, E, Qd, rp, hw, xc, k⟩ => ⟨F, ρ, E, _, rp, hw, xc, fun v H1 ρ1 r n1 ok1 f1 q1 => ?_⟩
  simp only [withs, derefs] at q1
  split at q1
  · rename_i ds eds
    split at eds
    · rename_i d ds' e1 e2
      cases eds
      cases e2
      rw [← deref_rd] at e1
      have hd := deref_ok ok1.rp' ok1.r1' e1
      exact ⟨_, v, d, rfl, by rw [hK]; exact hd, k _ _ _ _ n1 (.ofDat ok1.rp' (.bl _)) (fun _ q => q.elim) q1⟩
    · cases eds
  · exact q1.elim
/-! ### chains of comparisons -/
theorem d_chain {o o' : C2} {q : Expr} (ha : PE X a (tD c wa)) (hb : PE X b (tD c wb)) (hc : PE X q (tD c wc)) (hK : X.K = c.K) (hu : X.A.units + 65 < cLine) (hm : lastMarks [o.op, o'.op] [b, q] = false) :
    PE X (.Compare a [o.op, o'.op] [b, q] pos) (tD c fun E ρ Q => wa E ρ fun r ρ1 => wb E ρ1 fun s ρ2 => with2 ρ2 r s fun x y => cmpD o x y fun z =>
      if z = true then wc E ρ2 fun t ρ3 => with2 ρ3 s t fun y' u => cmpD o' y' u fun q => Q (.dat (.bool q)) ρ3
      else Q (.dat (.bool false)) ρ2) := by
  refine (pe_chain (cmp_ok hu o) (cmp_ok hu o') ha hb hc hm).imp fun σ H Q ⟨F, ρ, E, Qd, rp, hw, xc, k⟩ => ?_
  refine ⟨F, ρ, E, _, rp, hw, xc, fun v H1 ρ1 r n1 ok1 f1 q1 => ?_⟩
  refine ⟨F, ρ1, E, _, ok1.rp', q1, xc.nx n1, fun u H2 ρ2 s n2 ok2 f2 q2 => ?_⟩
  simp only [with2] at q2
  split at q2
  · rename_i x y ex ey
    rw [← deref_rd] at ex ey
    have hx := deref_ok ok2.rp' ((ok1.r1').nx (fun xs => rd_ne xs) n2) ex
    have hy := deref_ok ok2.rp' ok2.r1' ey
    rw [hK]
    refine ⟨_, x, y, _, hx, hy, q2, fun z kz => ⟨z, rfl, ?_⟩⟩
    cases z with
    | false => exact k _ _ _ _ (n1.trans n2) (.ofDat ok2.rp' (.bl _)) (fun _ q => q.elim) kz
    | true =>
      refine ⟨F, ρ2, E, _, ok2.rp', kz, xc.nx (n1.trans n2), fun w' H3 ρ3 t n3 ok3 f3 q3 => ?_⟩
      split at q3
      · rename_i y' u' ey' eu'
        rw [← deref_rd] at ey' eu'
        have hy' := deref_ok ok3.rp' ((ok2.r1').nx (fun xs => rd_ne xs) n3) ey'
        have hu' := deref_ok ok3.rp' ok3.r1' eu'
        exact ⟨_, y', u', _, hy', hu', q3, fun z' kz' => k _ _ _ _ ((n1.trans n2).trans n3) (.ofDat ok3.rp' (.bl _)) (fun _ q => q.elim) kz'⟩
      · exact q3.elim
  · exact q2.elim
/-! ### slices -/
def tDO (c : Cf) (w : (Xn → Prop) → Rho → (Option Int → Rho → Prop) → Prop) : TO := fun σ H Q => ∃ F ρ E Qd, Rp c.K c.IO F H σ ρ ∧ w E ρ Qd ∧ XC c F E σ ρ H ∧
  ∀ i H' ρ', Nx σ ρ H σ ρ' H' → Rp c.K c.IO F H' σ ρ' → Qd i ρ' → Q i H'
theorem _root_.L2.PO.imp {X : Cx} {e : Option Expr} {t t' : TO} (h : PO X e t) (i : ∀ σ H Q, t' σ H Q → t σ H Q) : PO X e t' := ⟨fun pins s σ H Q I q => h.run pins s σ H Q I (i _ _ _ q)⟩
theorem o_none : PO X none (tDO c (optI none)) := (po_none (X := X)).imp fun σ H Q ⟨F, ρ, E, Qd, rp, hw, xc, k⟩ => k _ _ _ Nx.refl rp hw
theorem o_some {w : W4} (h : PE X e (tD c w.e)) : PO X (some e) (tDO c (optI (some w))) := by
  refine (po_some h).imp fun σ H Q ⟨F, ρ, E, Qd, rp, hw, xc, k⟩ => ⟨F, ρ, E, _, rp, hw, xc, fun v H1 ρ1 r n1 ok1 f1 q1 => ?_⟩
  split at q1
  · rename_i i
    obtain rfl := (DR.dv ok1.r1').int
    exact ⟨i, rfl, k _ _ _ n1 ok1.rp' q1⟩
  · exact q1.elim
theorem d_slc {lo hi : Option Expr} {p2 : Pos} {wl wh : Option W4} (hK : X.K = c.K) (ha : PE X a (tD c wa)) (hl : PO X lo (tDO c (optI wl))) (hh : PO X hi (tDO c (optI wh))) :
    PE X (.Subscript a (.Slice lo hi none p2) pos) (tD c fun E ρ Q => wa E ρ fun r ρ1 => optI wl E ρ1 fun i ρ2 => optI wh E ρ2 fun j ρ3 => with1 ρ3 r fun x => slcD x i j fun z => Q z ρ3) := by
  refine (pe_slice slc_ok ha hl hh).imp fun σ H Q ⟨F, ρ, E, Qd, rp, hw, xc, k⟩ => ⟨F, ρ, E, _, rp, hw, xc, fun v H1 ρ1 r n1 ok1 f1 q1 => ?_⟩
  refine ⟨F, ρ1, E, _, ok1.rp', q1, xc.nx n1, fun i H2 ρ2 n2 p2 q2 => ?_⟩
  refine ⟨F, ρ2, E, _, p2, q2, xc.nx (n1.trans n2), fun j H3 ρ3 n3 p3 q3 => ?_⟩
  simp only [with1] at q3
  split at q3
  · rename_i x ex
    rw [← deref_rd] at ex
    have hx := deref_ok p3 ((ok1.r1').nx (fun xs => rd_ne xs) (n2.trans n3)) ex
    rw [hK]
    refine ⟨_, x, _, hx, fun a q => p3.bad_dom q, q3, fun v' H' r' rb q' => ?_⟩
    obtain ⟨n4, ok4⟩ := ResB.ok p3 rb
    exact k _ _ _ _ (((n1.trans n2).trans n3).trans n4) ok4 (fun a q => ((n1.trans n2).trans n3).fresh (nf_of rb a q)) q'
  · exact q3.elim
end
end DL
/-! DL10: defs and their calls. -/
namespace DL
open PySem PySem.Spec PyProof.Rows L2
/-- a def's contract where no text is being shown around -/
structure FnG (P : Program) (w : World) (K : PySem.W.Frag) (mg : Str → Option Value) (base : Heap) (CX : CXT) (k : Nat) (f : Addr) (fd : FuncData) (ps : List Str) (sp : Sp) : Prop where
  len : ∀ vs H Q E, sp vs H Q E → vs.length = ps.length
  run : ∀ (A : Around) (outer : List Env) (s : Shared) (H : Hp) (args : Args) (us : List Value) (vs : List V) (Q : VK) (E : XK), A.guards = some [] → Room k A → Env0 P w K mg base A outer s H → BindsTo s fd args (ps.zip us) → Vals vs us → sp vs H Q E →
    codeAny (model P w) A (.call (.ref f) args) (CR CX outer P w H s Q E) s
theorem FnG.mono {P : Program} {w : World} {K : PySem.W.Frag} {mg : Str → Option Value} {base : Heap} {CX : CXT} {j k : Nat} {f : Addr} {fd : FuncData} {ps : List Str} {sp : Sp} (F : FnG P w K mg base CX j f fd ps sp) (h : j ≤ k) : FnG P w K mg base CX k f fd ps sp :=
  ⟨F.len, fun A outer s H args us vs Q E hg hr => F.run A outer s H args us vs Q E hg (hr.mono h)⟩
theorem FnG.imp {P : Program} {w : World} {K : PySem.W.Frag} {mg : Str → Option Value} {base : Heap} {CX : CXT} {k : Nat} {f : Addr} {fd : FuncData} {ps : List Str} {sp sp' : Sp} (F : FnG P w K mg base CX k f fd ps sp)
    (h : ∀ vs H Q E, sp' vs H Q E → sp vs H Q E) : FnG P w K mg base CX k f fd ps sp' :=
  ⟨fun vs H Q E q => F.len vs H Q E (h _ _ _ _ q), fun A outer s H args us vs Q E hg hr he hb hv hs => F.run A outer s H args us vs Q E hg hr he hb hv (h _ _ _ _ hs)⟩
section
variable {X : Cx} {CX : CXT} {k : Nat} {f : Addr} {fd : FuncData} {ps ks : List Str} {sp : Sp} {E : XK} {x : Str} {p pos : Pos} {e : Expr} {es : List Expr} {kws : List Keyword} {t tk : TA}
/-- any binding of the arguments -/
theorem run_any {pins : List (Addr × Obj)} {σ : St} {H : Hp} {s : Shared} {Q : VK} {us : List Value} {vs : List V} {args : Args} {pv : List Value} {kw : List (Str × Value)} (F : FnG X.prog X.w X.K X.mg X.base CX k f fd ps sp) (hgd : X.A.guards = some []) (hr : Room k X.A)
    (hb : BindsTo s fd ⟨pv, kw⟩ (ps.zip us)) (hx : Passes CX X E) (I : Inv X pins σ H s) (r : Vals vs us) (h : sp vs H Q E) : wpAny (model X.prog X.w) X.A (call (.ref f) pv kw) (EP X pins σ Q) X.xe s :=
  wpAny_call (codeAny_mono (F.run X.A X.stack s H ⟨pv, kw⟩ us vs Q E hgd hr I.env0 hb r h) fun res s' hq => match res, hq with
    | .error ev, hq => hx pins σ H s ev s' I hq
    | .ok (.ret _), hq => I.after hq
    | .ok .next, hq => hq.elim
    | .ok .brk, hq => hq.elim
    | .ok .cont, hq => hq.elim)
theorem g_call (F : FnG X.prog X.w X.K X.mg X.base CX k f fd ps sp) (hgd : X.A.guards = some []) (hr : Room k X.A) (hg : Gl X x) (hm : X.mg x = some (.ref f)) (hk : PySem.W.keepIn X.K (.ref f) = true) (hb : Binds X.K fd ps []) (hx : Passes CX X E)
    (ha : PA X (e :: es) t) (hdb : (x == ("__debug__" : Str)) = false) (he : starEach (e :: es) X.env = (false, eval e X.env) :: starEach es X.env) (hpl : (backTo pos (starEach es X.env)).any (·.1) = false) :
    PE X (.Call (.Name x p) (e :: es) [] pos) (tCall sp [] E t) := ⟨fun pins s σ H Q I h =>
  wpAny_Call_Name_kw (ld_glob I hg hm (PySem.W.callWith_K (h₀ := X.base) I.ok.mod.kin hk (thn (ha.run pos pins s σ H _ I h) fun us s1 ⟨vs, H1, I1, r, q⟩ => by
    dsimp only at q
    rw [List.append_nil] at q
    have hl : us.length = ps.length := by rw [← r.length]; exact F.len _ _ _ _ q
    have b := hb s1 us I1.kIn (by rw [List.append_nil]; exact hl)
    rw [List.append_nil] at b
    exact ⟨I1.kIn, run_any (args := ⟨us, []⟩) F hgd hr b hx I1 r q⟩) he hpl) hdb)⟩
theorem g_call0 (F : FnG X.prog X.w X.K X.mg X.base CX k f fd ps sp) (hgd : X.A.guards = some []) (hr : Room k X.A) (hg : Gl X x) (hm : X.mg x = some (.ref f)) (hk : PySem.W.keepIn X.K (.ref f) = true) (hb : Binds X.K fd ps []) (hx : Passes CX X E) (hdb : (x == ("__debug__" : Str)) = false) :
    PE X (.Call (.Name x p) [] [] pos) (tCall sp [] E tNil) := ⟨fun pins s σ H Q I h => by
  have q : sp [] H Q E := h
  have hl : ([] : List V).length = ps.length := F.len _ _ _ _ q
  have b := hb s [] I.kIn (by simpa using hl)
  exact wpAny_Call_Name_kw (ld_glob I hg hm (PySem.W.callWith_K0 I.kIn hk (run_any (args := ⟨[], []⟩) (us := []) F hgd hr b hx I .nil q)) hdb)⟩
/-- all arguments by keywords, in the order of the parameters -/
def KwAll (K : PySem.W.Frag) (fd : FuncData) (ps : List Str) : Prop := ∀ (s : Shared) (us : List Value), K.In s.heap → us.length = ps.length → BindsTo s fd ⟨[], ps.zip us⟩ (ps.zip us)
theorem g_callK (F : FnG X.prog X.w X.K X.mg X.base CX k f fd ps sp) (hgd : X.A.guards = some []) (hr : Room k X.A) (hg : Gl X x) (hm : X.mg x = some (.ref f)) (hk : PySem.W.keepIn X.K (.ref f) = true) (hb : KwAll X.K fd ps) (hx : Passes CX X E)
    (hkw : PK X kws tk) (hall : (backToKw pos (keywordEach kws X.env)).all (·.1.isSome) = true) (hks : (backToKw pos (keywordEach kws X.env)).filterMap (·.1) = ps) (hdb : (x == ("__debug__" : Str)) = false)
    (hpl : ((backTo pos (starEach [] X.env)).any (·.1) || (backToKw pos (keywordEach kws X.env)).any (·.1.isNone)) = false) : PE X (.Call (.Name x p) [] kws pos) (tCall sp [] E tk) := ⟨fun pins s σ H Q I h =>
  wpAny_Call_Name_kw (ld_glob I hg hm (PySem.W.callWith_KW0 (h₀ := X.base) I.ok.mod.kin hk hall (thn (hkw.run pos pins s σ H _ I h) fun us s1 ⟨vs, H1, I1, r, q⟩ => by
    dsimp only at q
    rw [List.append_nil] at q
    have hl : us.length = ps.length := by rw [← r.length]; exact F.len _ _ _ _ q
    rw [hks]
    exact ⟨I1.kIn, run_any (args := ⟨[], ps.zip us⟩) F hgd hr (hb s1 us I1.kIn hl) hx I1 r q⟩) hpl) hdb)⟩
end
/-! ### contracts at the level of data -/
def IOof (vs : List V) (i : Nat) : Option Addr := match vs[i]? with
  | some (.ref a) => some a
  | _ => none
/-- the arguments' slots with what the lists of the caller hold then -/
def puts : List Sl → List (List D) → List Sl
  | [], _ => []
  | .dat d :: s, o => .dat d :: puts s o
  | .own b _ :: s, x :: o => .own b x :: puts s o
  | .own b x :: s, [] => .own b x :: puts s []
def noref : Rs → Prop
  | .ref _ => False
  | _ => True
def hs (K : PySem.W.Frag) (xt : Str → Option (Addr × Str)) (n : Nat) (sp : DSp) : Sp := fun vs H Q Eh => ∃ (F : Addr → Prop) (sl : List Sl) (Qd : Rs → List (List D) → Prop) (Ed : Xn → Prop),
  sl.length = n ∧ Rp K (IOof vs) F H (vs.map some) (sl.map some) ∧ sp sl Qd Ed ∧
  (∀ v H' r outs, Nx (vs.map some) (sl.map some) H (vs.map some) ((puts sl outs).map some) H' → RsOk K (IOof vs) F H' (vs.map some) ((puts sl outs).map some) v r → noref r → (∀ a, fr v r a → H a = none) → Qd r outs → Q v H') ∧
  (∀ cls dx H' x, (∀ a o, H a = some o → ¬ Own (vs.map some) (sl.map some) a → H' a = some o) → XnOk K xt F H' cls dx x → Ed x → Eh cls dx H')
theorem hs_len {K : PySem.W.Frag} {xt : Str → Option (Addr × Str)} {n : Nat} {sp : DSp} (vs : List V) (H : Hp) (Q : VK) (E : XK) (h : hs K xt n sp vs H Q E) : vs.length = n := by
  obtain ⟨F, sl, _, _, h1, h2, _⟩ := h
  have := h2.len
  simp only [List.length_map] at this
  omega
section
variable {X : Cx} {c : Cf} {K : PySem.W.Frag} {IO : Nat → Option Addr} {F G : Addr → Prop} {bad : Addr → Prop} {H H1 H2 H' : Hp} {σ : St} {ρ ρ1 ρ2 : Rho} {v : V} {r : Rs} {E : Xn → Prop}
  {e a b : Expr} {es : List Expr} {pos : Pos} {w wa wb wc : DTE} {wr : DTR} {n : Nat}
theorem gt_dats : ∀ (ds : List D) (i : Nat), gt ((ds.map Sl.dat).map some) i = (ds[i]?).map Sl.dat
  | [], _ => by simp [gt]
  | d :: ds, 0 => by simp [gt]
  | d :: ds, i + 1 => by simpa [gt] using gt_dats ds i
theorem no_own {ds : List D} {vs : List V} {a : Addr} : ¬ Own (vs.map some) ((ds.map Sl.dat).map some) a := by
  rintro ⟨i, io, xs, h1, _⟩
  rw [gt_dats] at h1
  cases q : ds[i]? with
  | none => rw [q] at h1; cases h1
  | some d => rw [q] at h1; cases h1
theorem puts_dats : ∀ (ds : List D) (o : List (List D)), puts (ds.map Sl.dat) o = ds.map Sl.dat
  | [], _ => rfl
  | d :: ds, o => by simp [puts, puts_dats ds o]
theorem DVs.nth {vs : List V} {ds : List D} (h : DVs K H bad vs ds) {i : Nat} {d : D} (e : ds[i]? = some d) : ∃ v, (vs.map some)[i]? = some (some v) ∧ DV K H bad v d := by
  obtain ⟨v, h1, h2⟩ := h.get e
  exact ⟨v, by simp [h1], h2⟩
/-- a call with data alone -/
theorem hs_dats {xt : Str → Option (Addr × Str)} {sp : DSp} {vs : List V} {ds : List D} {Q : VK} {Eh : XK} {Qd : Rs → Rho → Prop} (p : Rp K IO F H σ ρ) (h : DVs K H (Bad F σ ρ) vs ds) (hn : vs.length = n) (q : sp (ds.map .dat) (fun r _ => Qd r ρ) E)
    (xc : ∀ cls dx H' x, (∀ a o, H a = some o → ¬ Own σ ρ a → H' a = some o) → XnOk K xt F H' cls dx x → E x → Eh cls dx H')
    (k : ∀ v H' r, Nx σ ρ H σ ρ H' → RsOk K IO F H' σ ρ v r → (∀ a, fr v r a → H a = none) → Qd r ρ → Q v H') : hs K xt n sp vs H Q Eh := by
  refine ⟨Bad F σ ρ, ds.map .dat, _, E, by rw [List.length_map, ← h.length]; exact hn, ⟨fun i d e => ?_, fun i io xs e => ?_, fun i j io jo xs ys a e => ?_, fun a z => p.bad_dom z, ?_⟩, q, fun v H' r outs n1 ok nr f q => ?_, fun cls dx H' x kp ok e => ?_⟩
  · rw [gt_dats] at e
    cases z : ds[i]? with
    | none => rw [z] at e; cases e
    | some d' =>
      rw [z] at e; cases e
      obtain ⟨v, h1, h2⟩ := h.nth z
      exact ⟨v, h1, h2.mono fun a o e nb => ⟨e, fun y => y.elim nb no_own⟩⟩
  · rw [gt_dats] at e
    cases z : ds[i]? <;> rw [z] at e <;> cases e
  · rw [gt_dats] at e
    cases z : ds[i]? <;> rw [z] at e <;> cases e
  · simp [h.length]
  · rw [puts_dats] at n1 ok
    have rb : ResB K (Bad F σ ρ) H v H' r := by
      refine ⟨fun a o e => n1.keep a o e no_own, ?_⟩
      cases r with
      | dat d => exact DV.less (F := Bad F σ ρ) ok.r1' (fun a q => q) |>.mono fun a o e nb => ⟨e, fun z => nb (.inl z)⟩
      | ref i => exact nr.elim
      | own xs =>
        obtain ⟨a, ws, rfl, e2, e3⟩ := ok.r1
        refine ⟨a, ws, rfl, f a rfl, e2, e3.mono fun b o e nb => ⟨e, fun z => nb (.inl ?_)⟩⟩
        rcases z with z | z
        · exact .inl z
        · subst z; exact .inr rfl
    obtain ⟨n2, ok2⟩ := ResB.ok p rb
    exact k v H' r n2 ok2 f q
  · refine xc cls dx H' x (fun a o e _ => kp a o e no_own) ?_ e
    obtain ⟨C, f, h1, h2, h3⟩ := ok
    refine ⟨C, f, h1, h2, ?_⟩
    split at h3
    · exact h3
    · obtain ⟨y, u, e1, e2, e3⟩ := h3
      exact ⟨y, u, e1, e2, e3.mono fun b o q nb => ⟨q, fun z => nb (.inl z)⟩⟩
theorem d_call {sp : DSp} {ws : List W4} {t : TA} (hK : X.K = c.K) (h : PE X e (tCall (hs X.K c.xt n sp) [] c.Eh t)) (ht : ∀ σ H Q, tDH c n (eL ws) σ H Q → t σ H Q) : PE X e (tD c (callW sp ws)) := by
  refine h.imp fun σ H Q ⟨F, ρ, E, Qd, rp, hw, xc, k⟩ => ht _ _ _ ⟨F, ρ, E, _, rp, hw, xc, fun vs H1 ρ1 rs as hl n1 p1 h1 f1 q1 => ?_⟩
  obtain ⟨ds, ρ2, q2, p2, d2, n2⟩ := all_esc p1 h1 f1 q1
  rw [List.append_nil, hK]
  exact hs_dats p2 d2 hl q2 (xc.nx (n1.trans n2)) fun v H' r n3 ok3 f3 q3 => k _ _ _ _ ((n1.trans n2).trans n3) ok3 (fun a q => (n1.trans n2).fresh (f3 a q)) q3
end
end DL
/-! DL11: calls that hand a list on and get it back. -/
namespace DL
open PySem PySem.Spec PyProof.Rows L2
section
variable {X : Cx} {c : Cf} {K : PySem.W.Frag} {IO : Nat → Option Addr} {F G : Addr → Prop} {bad : Addr → Prop} {H H1 H2 H' : Hp} {σ : St} {ρ ρ1 ρ2 : Rho} {v : V} {r : Rs} {E : Xn → Prop}
  {e a b : Expr} {es : List Expr} {pos : Pos} {w wa wb wc : DTE} {wr : DTR} {n : Nat}
theorem own_io {x y : Addr} {xs : List D} {ws : List V} {ds : List D} : Own ((V.ref x :: ws).map some) ((Sl.own true xs :: ds.map Sl.dat).map some) y ↔ y = x := by
  constructor
  · rintro ⟨i, io, zs, h1, h2⟩
    cases i with
    | zero => simp at h2; exact h2.symm
    | succ i =>
      have h1' : gt ((ds.map Sl.dat).map some) i = some (Sl.own io zs) := h1
      rw [gt_dats] at h1'
      cases q : ds[i]? <;> rw [q] at h1' <;> cases h1'
  · rintro rfl
    exact ⟨0, true, xs, rfl, rfl⟩
/-- what stands behind such a call -/
structure AfterIo (K : PySem.W.Frag) (B : Addr → Prop) (x : Addr) (H : Hp) (v : V) (H' : Hp) (r : Rs) (ys : List D) : Prop where
  keep : ∀ b o, H b = some o → b ≠ x → H' b = some o
  held : ∃ us, H' x = some (.lst us) ∧ DVs K H' (fun b => B b ∨ fr v r b) us ys
  res : match r with
    | .dat d => DV K H' B v d
    | .own zs => ∃ p qs, v = .ref p ∧ H p = none ∧ H' p = some (.lst qs) ∧ DVs K H' (fun b => B b ∨ b = p) qs zs
    | .ref _ => False
theorem hs_io {xt : Str → Option (Addr × Str)} {sp : DSp} {ws : List V} {ds : List D} {xs : List D} {us : List V} {x : Addr} {Q : VK} {Eh : XK} {Qd : Rs → List D → Prop} (p : Rp K IO F H σ ρ)
    (hx : H x = some (.lst us)) (hxs : DVs K H (fun b => Bad F σ ρ b ∨ b = x) us xs) (h : DVs K H (fun b => Bad F σ ρ b ∨ b = x) ws ds) (hn : ws.length + 1 = n)
    (q : sp (.own true xs :: ds.map .dat) (fun r outs => match outs with
      | [ys] => Qd r ys
      | _ => False) E)
    (xc : ∀ cls dx H' y, (∀ a o, H a = some o → a ≠ x → H' a = some o) → XnOk K xt (fun b => Bad F σ ρ b ∧ b ≠ x) H' cls dx y → E y → Eh cls dx H')
    (k : ∀ v H' r ys, AfterIo K (fun b => Bad F σ ρ b ∨ b = x) x H v H' r ys → Qd r ys → Q v H') : hs K xt n sp (.ref x :: ws) H Q Eh := by
  have hB : ∀ (zs : List D) (b : Addr), Bad (fun b => Bad F σ ρ b ∧ b ≠ x) ((V.ref x :: ws).map some) ((Sl.own true zs :: ds.map Sl.dat).map some) b ↔ (Bad F σ ρ b ∨ b = x) := fun zs b => by
    constructor
    · rintro (z | z)
      · exact .inl z.1
      · exact .inr (own_io.mp z)
    · rintro (z | z)
      · by_cases hb : b = x
        · exact .inr (own_io.mpr hb)
        · exact .inl ⟨z, hb⟩
      · exact .inr (own_io.mpr z)
  have hm : ∀ (zs : List D) (a : Addr) (o : HO), H a = some o → ¬ (Bad F σ ρ a ∨ a = x) → H a = some o ∧ ¬ Bad (fun b => Bad F σ ρ b ∧ b ≠ x) ((V.ref x :: ws).map some) ((Sl.own true zs :: ds.map Sl.dat).map some) a := fun zs a o e nb => ⟨e, fun z => nb ((hB zs a).mp z)⟩
  refine ⟨fun b => Bad F σ ρ b ∧ b ≠ x, .own true xs :: ds.map .dat, _, E, by simp [h.length] at hn ⊢; exact hn, ⟨fun i d e => ?_, fun i io zs e => ?_, fun i j io jo zs ys y e1 e2 e3 e4 => ?_, fun b z => p.bad_dom z.1, ?_⟩, q, fun v H' r outs n1 ok nr f q => ?_, fun cls dx H' y kp ok e => ?_⟩
  · cases i with
    | zero => cases e
    | succ i =>
      have e' : gt ((ds.map Sl.dat).map some) i = some (Sl.dat d) := e
      rw [gt_dats] at e'
      cases z : ds[i]? with
      | none => rw [z] at e'; cases e'
      | some d' =>
        rw [z] at e'; cases e'
        obtain ⟨v, h1, h2⟩ := h.nth z
        exact ⟨v, by simpa using h1, h2.mono (hm xs)⟩
  · cases i with
    | zero =>
      cases e
      exact ⟨x, us, rfl, hx, hxs.mono (hm xs), fun z => z.2 rfl, fun _ => rfl⟩
    | succ i =>
      have e' : gt ((ds.map Sl.dat).map some) i = some (Sl.own io zs) := e
      rw [gt_dats] at e'
      cases z : ds[i]? <;> rw [z] at e' <;> cases e'
  · cases i with
    | zero =>
      cases j with
      | zero => rfl
      | succ j =>
        have e' : gt ((ds.map Sl.dat).map some) j = some (Sl.own jo ys) := e2
        rw [gt_dats] at e'
        cases z : ds[j]? <;> rw [z] at e' <;> cases e'
    | succ i =>
      have e' : gt ((ds.map Sl.dat).map some) i = some (Sl.own io zs) := e1
      rw [gt_dats] at e'
      cases z : ds[i]? <;> rw [z] at e' <;> cases e'
  · simp [h.length]
  · split at q
    · rename_i ys
      have hp : puts (.own true xs :: ds.map .dat) [ys] = .own true ys :: ds.map .dat := by simp only [puts, puts_dats]
      rw [hp] at n1 ok
      have kp : ∀ b o, H b = some o → b ≠ x → H' b = some o := fun b o e nb => n1.keep b o e fun z => nb (own_io.mp z)
      refine k v H' r ys ⟨kp, ?_, ?_⟩ q
      · obtain ⟨y, us', e1, e2, e3, _⟩ := ok.rp.own 0 true ys rfl
        have e1' : V.ref x = V.ref y := by simpa using e1
        cases e1'
        refine ⟨us', e2, e3.mono fun b o e nb => ⟨e, fun z => nb ?_⟩⟩
        rcases z with z | z
        · rcases (hB ys b).mpr z with y | y
          · exact .inl (.inl y)
          · exact .inr y
        · exact .inl (.inr z)
      · cases r with
        | dat d => exact DV.mono (fun b o e nb => ⟨e, fun z => nb ((hB ys b).mpr z)⟩) _ _ ok.r1'
        | ref i => exact nr.elim
        | own zs =>
          obtain ⟨y, qs, rfl, e2, e3⟩ := ok.r1
          refine ⟨y, qs, rfl, f y rfl, e2, e3.mono fun b o e nb => ⟨e, fun z => nb ?_⟩⟩
          rcases z with z | z
          · rcases (hB ys b).mpr z with y | y
            · exact .inl (.inl y)
            · exact .inr y
          · subst z; exact .inl (.inr rfl)
    · exact q.elim
  · exact xc cls dx H' y (fun b o e nb => kp b o e fun z => nb (own_io.mp z)) ok e
/-- the list is that of a name -/
theorem AfterIo.ref {i : Nat} {bo : Bool} {xs ys : List D} {x : Addr} (p : Rp K IO F H σ ρ) (e : gt ρ i = some (.own bo xs)) (es : σ[i]? = some (some (.ref x)))
    (A : AfterIo K (fun b => Bad F σ ρ b ∨ b = x) x H v H' r ys) : Nx σ ρ H σ (ρ.set i (some (.own bo ys))) H' ∧ RsOk K IO F H' σ (ρ.set i (some (.own bo ys))) v r ∧ ∀ a, fr v r a → H a = none := by
  have hO : Own σ ρ x := ⟨i, bo, xs, e, es⟩
  have ownE : ∀ b, Own σ (ρ.set i (some (.own bo ys))) b ↔ Own σ ρ b := fun b => by
    constructor
    · rintro ⟨j, io, zs, h1, h2⟩
      by_cases hj : j = i
      · subst hj
        rw [es] at h2; cases h2
        exact hO
      · rw [gt_set_ne hj] at h1
        exact ⟨j, io, zs, h1, h2⟩
    · rintro ⟨j, io, zs, h1, h2⟩
      by_cases hj : j = i
      · subst hj
        exact ⟨j, bo, ys, gt_set_self (gt_lt e), h2⟩
      · exact ⟨j, io, zs, by rw [gt_set_ne hj]; exact h1, h2⟩
  have hBx : ∀ b, (Bad F σ ρ b ∨ b = x) → Bad F σ ρ b := fun b z => z.elim id fun y => by subst y; exact .inr hO
  obtain ⟨us, u1, u2⟩ := A.held
  have frN : ∀ a, fr v r a → H a = none := fun a z => by
    cases r with
    | dat d => exact z.elim
    | ref i => exact z.elim
    | own zs =>
      obtain ⟨p', qs, e1, e2, _⟩ := A.res
      have z' : v = .ref a := z
      rw [e1] at z'; cases z'
      exact e2
  have there : ∀ a o, H a = some o → ∃ o', H' a = some o' := fun a o q => by
    by_cases ha : a = x
    · subst ha; exact ⟨_, u1⟩
    · exact ⟨o, A.keep a o q ha⟩
  have n : Nx σ ρ H σ (ρ.set i (some (.own bo ys))) H' := ⟨fun a o q nq => A.keep a o q fun z => nq (by subst z; exact hO), fun a q => .inl ((ownE a).mp q), there⟩
  have km : ∀ a o, H a = some o → ¬ Bad F σ ρ a → H' a = some o ∧ ¬ Bad (FF F v r) σ (ρ.set i (some (.own bo ys))) a := fun a o q nb => by
    refine ⟨A.keep a o q fun z => nb (.inr (by subst z; exact hO)), fun z => ?_⟩
    rcases z with (z | z) | z
    · exact nb (.inl z)
    · rw [frN a z] at q; cases q
    · exact nb (.inr ((ownE a).mp z))
  have hB' : ∀ b, Bad (FF F v r) σ (ρ.set i (some (.own bo ys))) b → (Bad F σ ρ b ∨ b = x) ∨ fr v r b := fun b z => by
    rcases z with (z | z) | z
    · exact .inl (.inl (.inl z))
    · exact .inr z
    · exact .inl (.inl (.inr ((ownE b).mp z)))
  refine ⟨n, ⟨⟨fun j d q => ?_, fun j io zs q => ?_, fun j l io jo zs zs' y h1 h2 h3 h4 => ?_, fun a z => ?_, by simpa using p.len⟩, ?_, fun a z => ?_⟩, frN⟩
  · have hj : j ≠ i := by
      rintro rfl
      rw [gt_set_self (gt_lt e)] at q; cases q
    rw [gt_set_ne hj] at q
    obtain ⟨u, h1, h2⟩ := p.dat j d q
    exact ⟨u, h1, h2.mono km⟩
  · by_cases hj : j = i
    · subst hj
      rw [gt_set_self (gt_lt e)] at q; cases q
      obtain ⟨y, ws, e1, e2, e3, e4, e5⟩ := p.own j _ _ e
      rw [es] at e1; cases e1
      refine ⟨x, us, es, u1, u2.mono fun b o q nb => ⟨q, fun z => nb (hB' b z)⟩, fun z => ?_, e5⟩
      rcases z with z | z
      · exact e4 z
      · have := frN _ z; rw [e2] at this; cases this
    · rw [gt_set_ne hj] at q
      obtain ⟨y, ws, e1, e2, e3, e4, e5⟩ := p.own j _ _ q
      have ny : y ≠ x := fun z => by
        subst z
        exact hj (p.inj j i _ _ _ _ y q e e1 es)
      refine ⟨y, ws, e1, A.keep _ _ e2 ny, e3.mono km, fun z => ?_, e5⟩
      rcases z with z | z
      · exact e4 z
      · have := frN _ z; rw [e2] at this; cases this
  · have q1 : ∃ io' zs'', gt ρ j = some (.own io' zs'') := by
      by_cases hj : j = i
      · subst hj; exact ⟨_, _, e⟩
      · rw [gt_set_ne hj] at h1; exact ⟨_, _, h1⟩
    have q2 : ∃ io' zs'', gt ρ l = some (.own io' zs'') := by
      by_cases hj : l = i
      · subst hj; exact ⟨_, _, e⟩
      · rw [gt_set_ne hj] at h2; exact ⟨_, _, h2⟩
    obtain ⟨_, _, q1⟩ := q1
    obtain ⟨_, _, q2⟩ := q2
    exact p.inj j l _ _ _ _ y q1 q2 h3 h4
  · rcases z with z | z
    · have := p.fdom a z
      cases q : H a with
      | none => exact (this q).elim
      | some o => obtain ⟨o', q'⟩ := there a o q; rw [q']; simp
    · cases r with
      | dat d => exact z.elim
      | ref i => exact z.elim
      | own zs =>
        obtain ⟨p', qs, e1, e2, e3, _⟩ := A.res
        have z' : v = .ref a := z
        rw [e1] at z'; cases z'
        rw [e3]; simp
  · have res := A.res
    cases r with
    | dat d => exact DV.mono (fun b o q nb => ⟨q, fun z => nb ((hB' b z).elim (fun y => y) fun y => y.elim)⟩) _ _ res
    | ref j => exact res.elim
    | own zs =>
      obtain ⟨p', qs, e1, e2, e3, e4⟩ := res
      refine ⟨p', qs, e1, e3, e4.mono fun b o q nb => ⟨q, fun z => nb ?_⟩⟩
      rcases hB' b z with y | y
      · exact .inl y
      · have y' : v = .ref b := y
        rw [e1] at y'; cases y'
        exact .inr rfl
  · intro q
    exact p.fdom a q (frN a z)
/-- the list is in hand -/
theorem AfterIo.tmp {ys : List D} {x : Addr} {xs : List D} (p : Rp K IO (FF F (.ref x) (.own xs)) H σ ρ) (hf : ¬ F x) (A : AfterIo K (fun b => Bad F σ ρ b ∨ b = x) x H v H' r ys) :
    (∀ b o, H b = some o → b ≠ x → H' b = some o) ∧ RsOk K IO F H' σ ρ v r ∧ ∀ a, fr v r a → H a = none := by
  have nO : ¬ Own σ ρ x := fun q => p.own_ne q (.inr rfl)
  obtain ⟨us, u1, u2⟩ := A.held
  have frN : ∀ a, fr v r a → H a = none := fun a z => by
    cases r with
    | dat d => exact z.elim
    | ref i => exact z.elim
    | own zs =>
      obtain ⟨p', qs, e1, e2, _⟩ := A.res
      have z' : v = .ref a := z
      rw [e1] at z'; cases z'
      exact e2
  have km : ∀ a o, H a = some o → ¬ Bad (FF F (.ref x) (.own xs)) σ ρ a → H' a = some o ∧ ¬ Bad (FF F v r) σ ρ a := fun a o q nb => by
    refine ⟨A.keep a o q fun z => nb (by subst z; exact .inl (.inr rfl)), fun z => ?_⟩
    rcases z with (z | z) | z
    · exact nb (.inl (.inl z))
    · rw [frN a z] at q; cases q
    · exact nb (.inr z)
  refine ⟨A.keep, ⟨⟨fun j d q => ?_, fun j io zs q => ?_, p.inj, fun a z => ?_, p.len⟩, ?_, fun a z => ?_⟩, frN⟩
  · obtain ⟨u, h1, h2⟩ := p.dat j d q
    exact ⟨u, h1, h2.mono km⟩
  · obtain ⟨y, ws, e1, e2, e3, e4, e5⟩ := p.own j _ _ q
    have ny : y ≠ x := fun z => by subst z; exact nO ⟨j, io, zs, q, e1⟩
    refine ⟨y, ws, e1, A.keep _ _ e2 ny, e3.mono km, fun z => ?_, e5⟩
    rcases z with z | z
    · exact e4 (.inl z)
    · have := frN _ z; rw [e2] at this; cases this
  · rcases z with z | z
    · have := p.fdom a (.inl z)
      cases q : H a with
      | none => exact (this q).elim
      | some o =>
        by_cases ha : a = x
        · subst ha; exact (hf z).elim
        · rw [A.keep a o q ha]; simp
    · cases r with
      | dat d => exact z.elim
      | ref i => exact z.elim
      | own zs =>
        obtain ⟨p', qs, e1, e2, e3, _⟩ := A.res
        have z' : v = .ref a := z
        rw [e1] at z'; cases z'
        rw [e3]; simp
  · have res := A.res
    have hB' : ∀ b, Bad (FF F v r) σ ρ b → (Bad F σ ρ b ∨ b = x) ∨ fr v r b := fun b z => by
      rcases z with (z | z) | z
      · exact .inl (.inl (.inl z))
      · exact .inr z
      · exact .inl (.inl (.inr z))
    cases r with
    | dat d => exact DV.mono (fun b o q nb => ⟨q, fun z => nb ((hB' b z).elim (fun y => y) fun y => y.elim)⟩) _ _ res
    | ref j => exact res.elim
    | own zs =>
      obtain ⟨p', qs, e1, e2, e3, e4⟩ := res
      refine ⟨p', qs, e1, e3, e4.mono fun b o q nb => ⟨q, fun z => nb ?_⟩⟩
      rcases hB' b z with y | y
      · exact .inl y
      · have y' : v = .ref b := y
        rw [e1] at y'; cases y'
        exact .inr rfl
  · intro q
    exact p.fdom a (.inl q) (frN a z)
end
end DL
/-! DL12: such calls, as expressions. -/
namespace DL
open PySem PySem.Spec PyProof.Rows L2
section
variable {X : Cx} {c : Cf} {K : PySem.W.Frag} {IO : Nat → Option Addr} {F G : Addr → Prop} {bad : Addr → Prop} {H H1 H2 H' : Hp} {σ : St} {ρ ρ1 ρ2 : Rho} {v : V} {r : Rs} {E : Xn → Prop}
  {e a b : Expr} {es : List Expr} {pos : Pos} {w wa wb wc : DTE} {wr : DTR} {n : Nat}
theorem XnOk.less {xt : Str → Option (Addr × Str)} {cls : Value} {dx : Option Addr} {y : Xn} (h : XnOk K xt F H cls dx y) (s : ∀ a, G a → F a) : XnOk K xt G H cls dx y := by
  obtain ⟨C, f, h1, h2, h3⟩ := h
  refine ⟨C, f, h1, h2, ?_⟩
  split at h3
  · exact h3
  · obtain ⟨p, v, e1, e2, e3⟩ := h3
    exact ⟨p, v, e1, e2, e3.mono fun b o q nb => ⟨q, fun z => nb (s b z)⟩⟩
theorem d_callIo {sp : DSp} {w : W4} {ws : List W4} {t : TA} (hK : X.K = c.K) (h : PE X e (tCall (hs X.K c.xt (n + 1) sp) [] c.Eh t)) (ht : ∀ σ H Q, tDH c (n + 1) (eL (w :: ws)) σ H Q → t σ H Q) : PE X e (tD c (callIoW sp w ws)) := by
  refine h.imp fun σ H Q ⟨F, ρ, E, Qd, rp, hw, xc, k⟩ => ht _ _ _ ⟨F, ρ, E, _, rp, hw, xc, fun vs H1 ρ1 rs as hl n1 p1 h1 f1 q1 => ?_⟩
  show hs X.K c.xt (n + 1) sp (vs ++ []) H1 Q c.Eh
  rw [List.append_nil, hK]
  cases h1 with
  | nil => exact q1.elim
  | @val v0 r0 vs' rs' _ r1 hn ht' =>
    obtain ⟨ds, ρ2, q2, p2, d2, n2⟩ := all_esc p1 ht' f1 q1
    cases r0 with
    | dat d => exact q2.elim
    | own xs => exact (hn xs rfl).elim
    | ref i =>
      have hv : σ[i]? = some (some v0) := r1
      simp only at q2
      split at q2
      · rename_i bo xs e
        obtain ⟨x, us, e1, e2, e3, e4, e5⟩ := p2.own i _ _ e
        rw [hv] at e1; cases e1
        have hO : Own σ ρ2 x := ⟨i, bo, xs, e, hv⟩
        have s : ∀ b, (Bad F σ ρ2 b ∨ b = x) → Bad F σ ρ2 b := fun b z => z.elim id fun y => by subst y; exact .inr hO
        refine hs_io (Qd := fun r ys => Qd r (ρ2.set i (some (.own bo ys)))) p2 e2 (e3.mono fun b o q nb => ⟨q, fun z => nb (s b z)⟩) (d2.mono fun b o q nb => ⟨q, fun z => nb (s b z)⟩) (by simpa using hl) q2 (fun cls dx H' y kp ok ey => ?_) fun v H' r ys A qd => ?_
        · exact xc.nx (n1.trans n2) cls dx H' y (fun b o q nq => kp b o q fun z => nq (by subst z; exact hO)) (ok.less fun b z => ⟨.inl z, fun y => by subst y; exact e4 z⟩) ey
        · obtain ⟨n3, ok3, f3⟩ := A.ref p2 e hv
          exact k _ _ _ _ ((n1.trans n2).trans n3) ok3 (fun a q => (n1.trans n2).fresh (f3 a q)) qd
      · exact q2.elim
  | @own x us xs vs' rs' as' e2 e3 hx ht' =>
    have f2 : ∀ a ∈ as', ¬ FF F (.ref x) (.own xs) a ∧ H a = none := fun a q => ⟨fun z => by
      rcases z with z | z
      · exact (f1 a (List.mem_cons_of_mem _ q)).1 z
      · cases z; exact hx q, (f1 a (List.mem_cons_of_mem _ q)).2⟩
    rw [← FL_own (xs := xs)] at p1 ht' e3
    obtain ⟨ds, ρ2, q2, p2, d2, n2⟩ := all_esc p1 ht' f2 q1
    have hF : ¬ F x := (f1 x List.mem_cons_self).1
    have hx0 : H x = none := (f1 x List.mem_cons_self).2
    have s : ∀ b, (Bad F σ ρ2 b ∨ b = x) → Bad (FF F (.ref x) (.own xs)) σ ρ2 b := fun b z => by
      rcases z with (z | z) | z
      · exact .inl (.inl z)
      · exact .inr z
      · subst z; exact .inl (.inr rfl)
    have e3' := (n2.dvs e3).less (G := FF F (.ref x) (.own xs)) sub_FL
    refine hs_io (Qd := fun r _ => Qd r ρ2) (p2.less (G := F) fun a q => .inl q) e2 (e3'.mono fun b o q nb => ⟨q, fun z => nb (s b z)⟩) (d2.mono fun b o q nb => ⟨q, fun z => nb (s b z)⟩) (by simpa using hl) q2 (fun cls dx H' y kp ok ey => ?_) fun v H' r ys A qd => ?_
    · refine xc cls dx H' y (fun b o q nq => kp b o ((n1.trans n2).keep b o q nq) fun z => ?_) (ok.less fun b z => ⟨.inl z, fun y => by subst y; exact hF z⟩) ey
      subst z
      rw [hx0] at q; cases q
    · obtain ⟨kp, ok3, f3⟩ := A.tmp p2 hF
      refine k _ _ _ _ ⟨fun b o q nq => kp b o ((n1.trans n2).keep b o q nq) fun z => ?_, fun a q => (n1.trans n2).sub a q, fun a o q => ?_⟩ ok3 (fun a q => (n1.trans n2).fresh (f3 a q)) qd
      · subst z
        rw [hx0] at q; cases q
      · obtain ⟨o1, h1⟩ := (n1.trans n2).there a o q
        by_cases ha : a = x
        · subst ha; rw [hx0] at q; cases q
        · exact ⟨o1, kp a o1 h1 ha⟩
end
end DL
/-! DL13: what is walked. -/
namespace DL
open PySem PySem.Spec PyProof.Rows L2
abbrev BH := (Addr → Prop) → Hp → Prop
/-- J walks the data xs while T stands -/
structure Fd (K : PySem.W.Frag) (J : It) (xs : List D) (T : BH) : Prop where
  go : ∀ bad H i, T bad H → i < xs.length → J.go i H
  stop : ∀ bad H, T bad H → J.stop xs.length H
  yld : ∀ bad H i v H' x, T bad H → (∀ a, bad a → H a ≠ none) → xs[i]? = some x → J.yld i H v H' → (∀ a o, H a = some o → H' a = some o) ∧ DV K H' bad v x
def Stay (S : BH) : Prop := ∀ bad H bad' H', S bad H → (∀ a o, H a = some o → ¬ bad a → H' a = some o ∧ ¬ bad' a) → S bad' H'
/-- walked by a for -/
def tDF (c : Cf) (w : DTI) : TI := fun σ H R => ∃ F ρ E k, Rp c.K c.IO F H σ ρ ∧ w E ρ k ∧ XC c F E σ ρ H ∧
  ∀ J H' ρ' xs ck (S : BH), Nx σ ρ H σ ρ' H' → Rp c.K c.IO F H' σ ρ' → Fd c.K J xs S → Stay S → S (Bad F σ ρ') H' → xs.length ≤ sizeLine → k xs ck ρ' → R J H'
/-- walked by a comprehension -/
def tDI (c : Cf) (w : DTI) : TI := fun σ H R => ∃ F ρ E k, Rp c.K c.IO F H σ ρ ∧ w E ρ k ∧ XC c F E σ ρ H ∧
  ∀ J H' ρ' xs ck (T S : BH), Nx σ ρ H σ ρ' H' → Rp c.K c.IO F H' σ ρ' → Fd c.K J xs T → Stay S → S (Bad F σ ρ') H' →
    (∀ F ρ2 σ2 H2, Rp c.K c.IO F H2 σ2 ρ2 → (∀ i s, gt ρ2 i = some s → σ2[i]? = σ[i]?) → S (Bad F σ2 ρ2) H2 → ck ρ2 → T (Bad F σ2 ρ2) H2) → xs.length ≤ sizeLine → k xs ck ρ' → R J H'
theorem _root_.L2.PI.imp {X : Cx} {tg e : Expr} {t t' : TI} (h : PI X tg e t) (i : ∀ σ H Q, t' σ H Q → t σ H Q) : PI X tg e t' := ⟨fun pins s σ H Q I q => h.run pins s σ H Q I (i _ _ _ q)⟩
section
variable {X : Cx} {c : Cf} {K : PySem.W.Frag} {IO : Nat → Option Addr} {F G : Addr → Prop} {bad : Addr → Prop} {H H1 H2 H' : Hp} {σ : St} {ρ ρ1 ρ2 : Rho} {v : V} {r : Rs} {E : Xn → Prop}
  {e a b tg : Expr} {es : List Expr} {pos : Pos} {w wa wb wc : DTE} {wr : DTR} {n : Nat}
/-- what may be walked at x: a list, a tuple -/
def TL (K : PySem.W.Frag) (x : Addr) (xs : List D) : BH := fun bad H => ∃ vs, SqL K H x vs ∧ DVs K H bad vs xs
def TT (K : PySem.W.Frag) (x : Addr) (xs : List D) : BH := fun bad H => ∃ vs, SqT K H x vs ∧ DVs K H bad vs xs
def SL (K : PySem.W.Frag) (x : Addr) (xs : List D) : BH := fun bad H => ∃ vs, SqLb K H bad x vs ∧ DVs K H bad vs xs
def ST (K : PySem.W.Frag) (x : Addr) (xs : List D) : BH := fun bad H => ∃ vs, SqTb K H bad x vs ∧ DVs K H bad vs xs
theorem SL.stay {x : Addr} {xs : List D} : Stay (SL K x xs) := fun bad H bad' H' ⟨vs, h1, h2⟩ k => ⟨vs, h1.mono k, h2.mono k⟩
theorem ST.stay {x : Addr} {xs : List D} : Stay (ST K x xs) := fun bad H bad' H' ⟨vs, h1, h2⟩ k => ⟨vs, h1.mono k, h2.mono k⟩
theorem SL.tl {x : Addr} {xs : List D} (h : SL K x xs bad H) : TL K x xs bad H := let ⟨vs, h1, h2⟩ := h; ⟨vs, h1.sq, h2⟩
theorem ST.tt {x : Addr} {xs : List D} (h : ST K x xs bad H) : TT K x xs bad H := let ⟨vs, h1, h2⟩ := h; ⟨vs, h1.sq, h2⟩
theorem Fd.imp {J : It} {xs : List D} {T T' : BH} (f : Fd K J xs T) (h : ∀ bad H, T' bad H → T bad H) : Fd K J xs T' :=
  ⟨fun b H i t => f.go b H i (h _ _ t), fun b H t => f.stop b H (h _ _ t), fun b H i v H' x t => f.yld b H i v H' x (h _ _ t)⟩
theorem get_ex {α : Type} {xs : List α} {i : Nat} (h : i < xs.length) : ∃ x, xs[i]? = some x := ⟨xs[i], by simp [h]⟩
theorem fd_list {x : Addr} {xs : List D} : Fd K (Itl K x) xs (TL K x xs) where
  go := fun bad H i ⟨vs, h1, h2⟩ hi => by
    obtain ⟨y, hy⟩ := get_ex (xs := vs) (i := i) (by rw [h2.length]; exact hi)
    exact ⟨vs, y, h1, hy⟩
  stop := fun bad H ⟨vs, h1, h2⟩ => ⟨vs, h1, by rw [h2.length]; exact Nat.le_refl _⟩
  yld := fun bad H i v H' y ⟨vs, h1, h2⟩ _ hy ⟨e1, e2⟩ => by
    subst e1
    obtain ⟨w, q1, q2⟩ := h2.get hy
    have := e2 vs h1
    rw [q1] at this; cases this
    exact ⟨fun _ _ e => e, q2⟩
theorem fd_tup {x : Addr} {xs : List D} : Fd K (Itt K x) xs (TT K x xs) where
  go := fun bad H i ⟨vs, h1, h2⟩ hi => by
    obtain ⟨y, hy⟩ := get_ex (xs := vs) (i := i) (by rw [h2.length]; exact hi)
    exact ⟨vs, y, h1, hy⟩
  stop := fun bad H ⟨vs, h1, h2⟩ => ⟨vs, h1, by rw [h2.length]; exact Nat.le_refl _⟩
  yld := fun bad H i v H' y ⟨vs, h1, h2⟩ _ hy ⟨e1, e2⟩ => by
    subst e1
    obtain ⟨w, q1, q2⟩ := h2.get hy
    have := e2 vs h1
    rw [q1] at this; cases this
    exact ⟨fun _ _ e => e, q2⟩
theorem fd_range {lo : Int} {n : Nat} : Fd K (Itr lo n) ((List.range n).map fun (i : Nat) => PyData.int (lo + i)) (fun _ _ => True) where
  go := fun bad H i _ hi => by show i < n; simpa using hi
  stop := fun bad H _ => by show n ≤ _; simp
  yld := fun bad H i v H' y _ _ hy ⟨e1, e2⟩ => by
    subst e1 e2
    simp only [List.getElem?_map, Option.map_eq_some_iff] at hy
    obtain ⟨j, h1, rfl⟩ := hy
    have : j = i := by
      rw [List.getElem?_range (by have := (List.getElem?_eq_some_iff.mp h1).1; simpa using this)] at h1
      exact (Option.some.inj h1).symm
    subst this
    exact ⟨fun _ _ e => e, .int _⟩
/-! ### a list or a tuple -/
def iSeq (K : PySem.W.Frag) (tl : TE) : TI := fun σ H R => tl σ H fun x H1 => ∃ a, x = .ref a ∧ ((∃ xs, SqL K H1 a xs ∧ (xs.length ≤ sizeLine → R (Itl K a) H1)) ∨ (∃ xs, SqT K H1 a xs ∧ (xs.length ≤ sizeLine → R (Itt K a) H1)))
theorem pi_seq {l : Expr} {tl : TE} (hl : PE X l tl) : PI X tg l (iSeq X.K tl) := by
  refine ⟨fun pins s σ H R I h => ?_⟩
  refine thn (hl.run pins s σ H _ I h) fun v s1 ⟨x, H1, I1, r1, a, e, q⟩ => ?_
  subst e
  cases r1
  rcases q with ⟨xs, hq, q⟩ | ⟨xs, hq, q⟩
  · obtain ⟨its, rv, p, hz⟩ := I1.list hq
    refine wpAny_pyIter_list p.isList ⟨s1.heap.objs.size, [s1.heap.objs.size], _, _, H1, rfl, I1.kept (t' := s1.toks) fun b o e => Heap.get?_push_of_some _ e, turn_list a _, ⟨_, Heap.get?_push_size _ rfl, rfl, rfl⟩, fun b hb => ?_, q hz⟩
    obtain rfl : b = s1.heap.objs.size := by simpa using hb
    exact I1.fpOk (Nat.le_refl _) (I1.hok.fresh (Nat.le_refl _))
  · obtain ⟨its, rv, p, hz⟩ := I1.tuple hq
    refine wpAny_pyIter_tuple (show s1.heap.IsTuple a its.toArray from p) ⟨s1.heap.objs.size, [s1.heap.objs.size], _, _, H1, rfl, I1.kept (t' := s1.toks) fun b o e => Heap.get?_push_of_some _ e, turn_tuple a _, ⟨_, Heap.get?_push_size _ rfl, rfl, rfl⟩, fun b hb => ?_, q hz⟩
    obtain rfl : b = s1.heap.objs.size := by simpa using hb
    exact I1.fpOk (Nat.le_refl _) (I1.hok.fresh (Nat.le_refl _))
theorem seqD_cases {d : D} {xs : List D} (h : seqD d = some xs) : d = .list xs ∨ d = .tuple xs := by
  cases d <;> simp [seqD] at h
  · subst h; exact .inl rfl
  · subst h; exact .inr rfl
theorem i_seq (hK : X.K = c.K) (h : PE X e (tD c w)) : PI X tg e (tDI c (asI w)) := by
  refine (pi_seq h).imp fun σ H R ⟨F, ρ, E, k, rp, hw, xc, kk⟩ => ⟨F, ρ, E, _, rp, hw, xc, fun v H1 ρ1 r n1 ok1 f1 q1 => ?_⟩
  rw [hK]
  split at q1
  · rename_i xs ed
    cases r with
    | ref i =>
      have hd := deref_ok ok1.rp' (show R1 c.K H1 (Bad F σ ρ1) σ v (.ref i) from ok1.r1') ed
      obtain ⟨x, vs, rfl, h1, h2⟩ := hd.list
      refine ⟨x, rfl, .inl ⟨vs, h1, fun hz => kk _ _ _ xs _ (TL c.K x xs) (fun _ _ => True) n1 ok1.rp' fd_list (fun _ _ _ _ _ _ => trivial) trivial (fun F2 ρ2 σ2 H2 p2 ag _ ck => ?_) (by rw [← h2.length]; exact hz) q1⟩⟩
      have hv : σ[i]? = some (some (V.ref x)) := ok1.r1
      have ck' : deref ρ2 (.ref i) = some (.list xs) := ck
      have hg : ∃ s, gt ρ2 i = some s := by
        simp only [deref] at ck'
        split at ck' <;> first | exact ⟨_, by assumption⟩ | cases ck'
      obtain ⟨s, hs⟩ := hg
      obtain ⟨y, ws, e1, e2, e3⟩ := (deref_ok (v := .ref x) p2 (show R1 c.K H2 (Bad F2 σ2 ρ2) σ2 (.ref x) (.ref i) from (ag i s hs).trans hv) ck').list
      cases e1
      exact ⟨ws, e2, e3⟩
    | dat d' =>
      have hd' : DV c.K H1 (Bad F σ ρ1) v d' := ok1.r1'
      cases ed
      cases hd' with
      | lst h1 h2 => exact ⟨_, rfl, .inl ⟨_, h1.sq, fun hz => kk _ _ _ xs _ _ (SL c.K _ xs) n1 ok1.rp' fd_list SL.stay ⟨_, h1, h2⟩ (fun F2 ρ2 σ2 H2 p2 ag z ck => z.tl) (by rw [← h2.length]; exact hz) q1⟩⟩
    | own ys =>
      have hd' : DV c.K H1 (Bad F σ ρ1) v (.list ys) := ok1.r1'
      cases ed
      cases hd' with
      | lst h1 h2 => exact ⟨_, rfl, .inl ⟨_, h1.sq, fun hz => kk _ _ _ xs _ _ (SL c.K _ xs) n1 ok1.rp' fd_list SL.stay ⟨_, h1, h2⟩ (fun F2 ρ2 σ2 H2 p2 ag z ck => z.tl) (by rw [← h2.length]; exact hz) q1⟩⟩
  · rename_i xs ed
    split at q1
    · rename_i d'
      have hd' : DV c.K H1 (Bad F σ ρ1) v d' := ok1.r1'
      cases ed
      cases hd' with
      | tup h1 h2 => exact ⟨_, rfl, .inr ⟨_, h1.sq, fun hz => kk _ _ _ xs _ _ (ST c.K _ xs) n1 ok1.rp' fd_tup ST.stay ⟨_, h1, h2⟩ (fun F2 ρ2 σ2 H2 p2 ag z ck => z.tt) (by rw [← h2.length]; exact hz) q1⟩⟩
    · exact q1.elim
  · exact q1.elim
theorem f_seq (hK : X.K = c.K) (h : PE X e (tD c w)) : PI X tg e (tDF c (asF w)) := by
  refine (pi_seq h).imp fun σ H R ⟨F, ρ, E, k, rp, hw, xc, kk⟩ => ⟨F, ρ, E, _, rp, hw, xc, fun v H1 ρ1 r n1 ok1 f1 q1 => ?_⟩
  rw [hK]
  obtain ⟨d, ρ2, q2, p2, d2, n2⟩ := esc_ok ok1 q1
  split at q2
  · rename_i xs es
    rcases seqD_cases es with rfl | rfl
    · cases d2 with
      | lst h1 h2 => exact ⟨_, rfl, .inl ⟨_, h1.sq, fun hz => kk _ _ _ xs _ (SL c.K _ xs) (n1.trans n2) p2 (fd_list.imp fun _ _ => SL.tl) SL.stay ⟨_, h1, h2⟩ (by rw [← h2.length]; exact hz) q2⟩⟩
    · cases d2 with
      | tup h1 h2 => exact ⟨_, rfl, .inr ⟨_, h1.sq, fun hz => kk _ _ _ xs _ (ST c.K _ xs) (n1.trans n2) p2 (fd_tup.imp fun _ _ => ST.tt) ST.stay ⟨_, h1, h2⟩ (by rw [← h2.length]; exact hz) q2⟩⟩
  · exact q2.elim
/-! ### ranges -/
theorem i_rng {p : Pos} {wi : TI} (h : PI X tg e wi)
    (hi : ∀ σ H R, (∃ (F : Addr → Prop) (ρ : Rho) (E : Xn → Prop) (k : List D → (Rho → Prop) → Rho → Prop), Rp c.K c.IO F H σ ρ ∧ wr E ρ (fun rs ρ1 => withs ρ1 rs fun ds => rngD ds fun xs => k xs (fun _ => True) ρ1) ∧ XC c F E σ ρ H ∧
      ∀ (lo : Int) (m : Nat) (H' : Hp) (ρ' : Rho), Nx σ ρ H σ ρ' H' → Rp c.K c.IO F H' σ ρ' → m ≤ sizeLine → k ((List.range m).map fun (i : Nat) => PyData.int (lo + i)) (fun _ => True) ρ' → R (Itr lo m) H') → wi σ H R) :
    PI X tg e (tDI c fun E ρ k => wr E ρ fun rs ρ1 => withs ρ1 rs fun ds => rngD ds fun xs => k xs (fun _ => True) ρ1) ∧
    PI X tg e (tDF c fun E ρ k => wr E ρ fun rs ρ1 => withs ρ1 rs fun ds => rngD ds fun xs => k xs (fun _ => True) ρ1) :=
  ⟨h.imp fun σ H R ⟨F, ρ, E, k, rp, hw, xc, kk⟩ => hi _ _ _ ⟨F, ρ, E, k, rp, hw, xc, fun lo m H' ρ' n1 p1 hm q => kk _ _ _ _ _ (fun _ _ => True) (fun _ _ => True) n1 p1 fd_range (fun _ _ _ _ _ _ => trivial) trivial (fun _ _ _ _ _ _ _ _ => trivial) (by simpa using hm) q⟩,
   h.imp fun σ H R ⟨F, ρ, E, k, rp, hw, xc, kk⟩ => hi _ _ _ ⟨F, ρ, E, k, rp, hw, xc, fun lo m H' ρ' n1 p1 hm q => kk _ _ _ _ _ (fun _ _ => True) n1 p1 fd_range (fun _ _ _ _ _ _ => trivial) trivial (by simpa using hm) q⟩⟩
theorem rng_one (hg : Gl X "range") (hm : X.mg "range" = none) {p : Pos} (ha : PA X [a] (tDH c 1 wr)) (hs : starEach [a] X.env = [(false, eval a X.env)]) :
    PI X tg (.Call (.Name "range" p) [a] [] pos) (tDI c fun E ρ k => wr E ρ fun rs ρ1 => withs ρ1 rs fun ds => rngD ds fun xs => k xs (fun _ => True) ρ1) ∧
    PI X tg (.Call (.Name "range" p) [a] [] pos) (tDF c fun E ρ k => wr E ρ fun rs ρ1 => withs ρ1 rs fun ds => rngD ds fun xs => k xs (fun _ => True) ρ1) :=
  i_rng (p := p) (pi_range1 hg hm ha hs) fun σ H R ⟨F, ρ, E, k, rp, hw, xc, kk⟩ => ⟨F, ρ, E, _, rp, hw, xc, fun vs H1 ρ1 rs as hl n1 p1 h1 f1 q1 => by
    simp only [withs] at q1
    split at q1
    · rename_i ds eds
      have p2 := p1.less (G := F) sub_FL
      have hr := h1.r1s p1 fun a q => (f1 a q).1
      rw [← derefs_rd] at eds
      have hd := derefs_ok p2 hr eds
      unfold rngD at q1
      split at q1
      · obtain ⟨v, rfl, h3⟩ := hd.one
        obtain rfl := h3.int
        refine ⟨_, rfl, q1.1.1, q1.1.2, kk 0 _ _ _ n1 p2 q1.2.1 ?_⟩
        simpa using q1.2.2
      · obtain ⟨v, w, rfl, _⟩ := hd.two
        simp at hl
      · exact q1.elim
    · exact q1.elim⟩
theorem rng_two (hg : Gl X "range") (hm : X.mg "range" = none) {p : Pos} (ha : PA X [a, b] (tDH c 2 wr)) (hs : starEach [a, b] X.env = [(false, eval a X.env), (false, eval b X.env)]) (hs2 : starEach [b] X.env = [(false, eval b X.env)]) :
    PI X tg (.Call (.Name "range" p) [a, b] [] pos) (tDI c fun E ρ k => wr E ρ fun rs ρ1 => withs ρ1 rs fun ds => rngD ds fun xs => k xs (fun _ => True) ρ1) ∧
    PI X tg (.Call (.Name "range" p) [a, b] [] pos) (tDF c fun E ρ k => wr E ρ fun rs ρ1 => withs ρ1 rs fun ds => rngD ds fun xs => k xs (fun _ => True) ρ1) :=
  i_rng (p := p) (pi_range2 hg hm ha hs hs2) fun σ H R ⟨F, ρ, E, k, rp, hw, xc, kk⟩ => ⟨F, ρ, E, _, rp, hw, xc, fun vs H1 ρ1 rs as hl n1 p1 h1 f1 q1 => by
    simp only [withs] at q1
    split at q1
    · rename_i ds eds
      have p2 := p1.less (G := F) sub_FL
      have hr := h1.r1s p1 fun a q => (f1 a q).1
      rw [← derefs_rd] at eds
      have hd := derefs_ok p2 hr eds
      unfold rngD at q1
      split at q1
      · obtain ⟨v, rfl, h1⟩ := hd.one
        simp at hl
      · obtain ⟨v, w, rfl, h3, h4⟩ := hd.two
        obtain rfl := h3.int
        obtain rfl := h4.int
        exact ⟨_, _, rfl, q1.1, kk _ _ _ _ n1 p2 q1.2.1 q1.2.2⟩
      · exact q1.elim
    · exact q1.elim⟩
end
end DL
/-! DL14: targets, comprehensions. -/
namespace DL
open PySem PySem.Spec PyProof.Rows L2
section
variable {X : Cx} {c : Cf} {K : PySem.W.Frag} {IO : Nat → Option Addr} {F G : Addr → Prop} {bad : Addr → Prop} {H H1 H2 H' : Hp} {σ σ1 : St} {ρ ρ1 ρ2 : Rho} {v : V} {r : Rs} {E : Xn → Prop}
  {e a b tg : Expr} {es : List Expr} {pos : Pos} {w wa wb wc : DTE} {wr : DTR} {n : Nat}
theorem gt_big {ρ : Rho} {i : Nat} (h : ρ.length ≤ i) : gt ρ i = none := by
  cases q : gt ρ i with
  | none => rfl
  | some s => have := gt_lt q; omega
theorem gt_set_none {ρ : Rho} {i : Nat} : gt (ρ.set i none) i = none := by
  by_cases h : i < ρ.length
  · exact gt_set_self h
  · exact gt_big (by simp; omega)
theorem get_set_ne {α : Type} {l : List α} {i j : Nat} {x : α} (h : j ≠ i) : (l.set i x)[j]? = l[j]? := by
  rw [List.getElem?_set_ne (Ne.symm h)]
/-- the slots of one state, among those of another -/
theorem Rp.sub {σ1 : St} {ρ1 : Rho} (p : Rp K IO F H σ ρ) (hl : ρ1.length = σ1.length) (h : ∀ i s, gt ρ1 i = some s → gt ρ i = some s ∧ σ1[i]? = σ[i]?) :
    Rp K IO F H σ1 ρ1 ∧ Nx σ ρ H σ1 ρ1 H := by
  have ho : ∀ a, Own σ1 ρ1 a → Own σ ρ a := fun a ⟨i, io, xs, h1, h2⟩ => ⟨i, io, xs, (h i _ h1).1, by rw [← (h i _ h1).2]; exact h2⟩
  have n : Nx σ ρ H σ1 ρ1 H := ⟨fun _ _ e _ => e, fun a q => .inl (ho a q), fun _ o e => ⟨o, e⟩⟩
  refine ⟨⟨fun i d e => ?_, fun i io xs e => ?_, fun i j io jo xs ys a h1 h2 h3 h4 => ?_, p.fdom, hl⟩, n⟩
  · obtain ⟨v, h1, h2⟩ := p.dat i d (h i _ e).1
    exact ⟨v, by rw [(h i _ e).2]; exact h1, n.dv h2⟩
  · obtain ⟨a, vs, h1, h2, h3, h4, h5⟩ := p.own i io xs (h i _ e).1
    exact ⟨a, vs, by rw [(h i _ e).2]; exact h1, h2, n.dvs h3, h4, h5⟩
  · exact p.inj i j io jo xs ys a (h i _ h1).1 (h j _ h2).1 (by rw [← (h i _ h1).2]; exact h3) (by rw [← (h j _ h2).2]; exact h4)
/-- a name is given a datum -/
theorem Rp.put {i : Nat} {d : D} (p : Rp K IO F H σ ρ) (dv : DV K H (Bad F σ ρ) v d) : Rp K IO F H (σ.set i (some v)) (ρ.set i (some (.dat d))) ∧ Nx σ ρ H (σ.set i (some v)) (ρ.set i (some (.dat d))) H := by
  have ho : ∀ a, Own (σ.set i (some v)) (ρ.set i (some (.dat d))) a → Own σ ρ a := fun a ⟨j, io, xs, h1, h2⟩ => by
    have hj : j ≠ i := by
      rintro rfl
      have hl := gt_lt h1
      rw [List.length_set] at hl
      rw [gt_set_self hl] at h1
      cases h1
    rw [gt_set_ne hj] at h1
    rw [get_set_ne hj] at h2
    exact ⟨j, io, xs, h1, h2⟩
  have n : Nx σ ρ H (σ.set i (some v)) (ρ.set i (some (.dat d))) H := ⟨fun _ _ e _ => e, fun a q => .inl (ho a q), fun _ o e => ⟨o, e⟩⟩
  have ne : ∀ {j s}, gt (ρ.set i (some (.dat d))) j = some s → (∀ d, s ≠ .dat d) → j ≠ i := fun {j s} h1 hs => by
    rintro rfl
    have hl := gt_lt h1
    rw [List.length_set] at hl
    rw [gt_set_self hl] at h1
    cases h1
    exact hs _ rfl
  refine ⟨⟨fun j d' e => ?_, fun j io xs e => ?_, fun j l io jo xs ys a h1 h2 h3 h4 => ?_, p.fdom, by simpa using p.len⟩, n⟩
  · by_cases hj : j = i
    · subst hj
      have hl := gt_lt e
      rw [List.length_set] at hl
      rw [gt_set_self hl] at e
      cases e
      exact ⟨v, by rw [List.getElem?_set_self (by rw [← p.len]; exact hl)], n.dv dv⟩
    · rw [gt_set_ne hj] at e
      obtain ⟨u, h1, h2⟩ := p.dat j d' e
      exact ⟨u, by rw [get_set_ne hj]; exact h1, n.dv h2⟩
  · have hj := ne e (by simp)
    rw [gt_set_ne hj] at e
    obtain ⟨a, vs, h1, h2, h3, h4, h5⟩ := p.own j io xs e
    exact ⟨a, vs, by rw [get_set_ne hj]; exact h1, h2, n.dvs h3, h4, h5⟩
  · have hj := ne h1 (by simp)
    have hl := ne h2 (by simp)
    rw [gt_set_ne hj] at h1
    rw [gt_set_ne hl] at h2
    rw [get_set_ne hj] at h3
    rw [get_set_ne hl] at h4
    exact p.inj j l _ _ _ _ a h1 h2 h3 h4
/-- the heap grew -/
theorem Rp.ext (p : Rp K IO F H σ ρ) (k : ∀ a o, H a = some o → H' a = some o) : Rp K IO F H' σ ρ ∧ Nx σ ρ H σ ρ H' := by
  have n : Nx σ ρ H σ ρ H' := ⟨fun a o e _ => k a o e, fun a q => .inl q, fun a o e => ⟨o, k a o e⟩⟩
  refine ⟨⟨fun i d e => ?_, fun i io xs e => ?_, p.inj, fun a q => ?_, p.len⟩, n⟩
  · obtain ⟨u, h1, h2⟩ := p.dat i d e
    exact ⟨u, h1, n.dv h2⟩
  · obtain ⟨a, vs, h1, h2, h3, h4, h5⟩ := p.own i io xs e
    exact ⟨a, vs, h1, k _ _ h2, n.dvs h3, h4, h5⟩
  · have := p.fdom a q
    cases e : H a with
    | none => exact (this e).elim
    | some o => rw [k a o e]; simp
/-- one more foreign address, a new one -/
theorem Rp.guard {x : Addr} (p : Rp K IO F H σ ρ) (hx : H x = none) (k : ∀ a o, H a = some o → H' a = some o) (hx' : H' x ≠ none) : Rp K IO (fun b => F b ∨ b = x) H' σ ρ := by
  have km : ∀ a o, H a = some o → ¬ Bad F σ ρ a → H' a = some o ∧ ¬ Bad (fun b => F b ∨ b = x) σ ρ a := fun a o e nb => ⟨k a o e, fun q => by
    rcases q with (q | q) | q
    · exact nb (.inl q)
    · subst q; rw [hx] at e; cases e
    · exact nb (.inr q)⟩
  refine ⟨fun i d e => ?_, fun i io xs e => ?_, p.inj, fun a q => ?_, p.len⟩
  · obtain ⟨u, h1, h2⟩ := p.dat i d e
    exact ⟨u, h1, h2.mono km⟩
  · obtain ⟨a, vs, h1, h2, h3, h4, h5⟩ := p.own i io xs e
    refine ⟨a, vs, h1, k _ _ h2, h3.mono km, fun q => ?_, h5⟩
    rcases q with q | q
    · exact h4 q
    · subst q; rw [hx] at h2; cases h2
  · rcases q with q | q
    · have := p.fdom a q
      cases e : H a with
      | none => exact (this e).elim
      | some o => rw [k a o e]; simp
    · subst q; exact hx'
/-- a foreign address is written -/
theorem Rp.wrF {x : Addr} {o : HO} (p : Rp K IO F H σ ρ) (hx : F x) : Rp K IO F (upd H x o) σ ρ := by
  have km : ∀ a o', H a = some o' → ¬ Bad F σ ρ a → upd H x o a = some o' ∧ ¬ Bad F σ ρ a := fun a o' e nb => ⟨by rw [upd_ne (fun q => nb (by subst q; exact .inl hx))]; exact e, nb⟩
  refine ⟨fun i d e => ?_, fun i io xs e => ?_, p.inj, fun a q => ?_, p.len⟩
  · obtain ⟨u, h1, h2⟩ := p.dat i d e
    exact ⟨u, h1, h2.mono km⟩
  · obtain ⟨a, vs, h1, h2, h3, h4, h5⟩ := p.own i io xs e
    exact ⟨a, vs, h1, by rw [upd_ne (fun q => h4 (by subst q; exact hx))]; exact h2, h3.mono km, h4, h5⟩
  · by_cases ha : a = x
    · subst ha; rw [upd_same]; simp
    · rw [upd_ne ha]; exact p.fdom a q
theorem gt_wipe : ∀ (is : List Nat) (ρ : Rho) (j : Nat), gt (wipeR ρ is) j = if j ∈ is then none else gt ρ j
  | [], _, _ => by simp [wipeR]
  | i :: is, ρ, j => by
    simp only [wipeR]
    by_cases hj : j = i
    · subst hj; rw [gt_set_none]; simp
    · rw [gt_set_ne hj, gt_wipe is ρ j]
      simp [hj]
theorem len_wipe : ∀ (is : List Nat) (ρ : Rho), (wipeR ρ is).length = ρ.length
  | [], _ => rfl
  | i :: is, ρ => by simp only [wipeR, List.length_set]; exact len_wipe is ρ
theorem len_rest : ∀ (is : List Nat) (ρ0 ρ : Rho), (restR ρ0 ρ is).length = ρ.length
  | [], _, _ => rfl
  | i :: is, ρ0, ρ => by simp only [restR, List.length_set]; exact len_rest is ρ0 ρ
theorem gt_rest : ∀ (is : List Nat) (ρ0 ρ : Rho) (j : Nat), ρ0.length = ρ.length → gt (restR ρ0 ρ is) j = if j ∈ is then gt ρ0 j else gt ρ j
  | [], _, _, _, _ => by simp [restR]
  | i :: is, ρ0, ρ, j, hl => by
    simp only [restR]
    by_cases hj : j = i
    · subst hj
      by_cases h : j < (restR ρ0 ρ is).length
      · rw [gt_set_self h]; simp
      · rw [gt_big (by simpa using h), gt_big (by rw [len_rest] at h; omega)]; simp
    · rw [gt_set_ne hj, gt_rest is ρ0 ρ j hl]
      simp [hj]
theorem wipe_len (is : List Nat) (σ : St) : (wipe σ is).length = σ.length := wipe_length σ is
theorem Rp.wipe (is : List Nat) (p : Rp K IO F H σ ρ) : Rp K IO F H (L2.wipe σ is) (wipeR ρ is) ∧ Nx σ ρ H (L2.wipe σ is) (wipeR ρ is) H := by
  refine p.sub (by rw [len_wipe, wipe_len]; exact p.len) fun i s e => ?_
  rw [gt_wipe] at e
  split at e
  · cases e
  · rename_i hi
    exact ⟨e, wipe_out hi⟩
theorem wipe_in : ∀ {is : List Nat} {σ : St} {j : Nat}, j ∈ is → (L2.wipe σ is)[j]? = if j < σ.length then some none else none
  | i :: is, σ, j, h => by
    simp only [L2.wipe]
    by_cases hj : j = i
    · subst hj
      by_cases hl : j < σ.length
      · rw [List.getElem?_set_self (by rw [wipe_len]; exact hl), if_pos hl]
      · rw [List.getElem?_eq_none (by rw [List.length_set, wipe_len]; omega), if_neg hl]
    · rw [get_set_ne hj]
      exact wipe_in ((List.mem_cons.mp h).resolve_left hj)
theorem wipe_eq {is : List Nat} {σ σ' : St} (hl : σ'.length = σ.length) (h : ∀ j, j ∉ is → σ'[j]? = σ[j]?) : L2.wipe σ' is = L2.wipe σ is := by
  refine List.ext_getElem? fun j => ?_
  by_cases hj : j ∈ is
  · rw [wipe_in hj, wipe_in hj, hl]
  · rw [wipe_out hj, wipe_out hj, h j hj]
/-! ### targets -/
mutual
def gOf (K : PySem.W.Frag) : Tn → TG
  | .name i => gName i
  | .tup ts => gTup K ts.length (gsOf K ts)
def gsOf (K : PySem.W.Frag) : List Tn → TGs
  | [] => gNil
  | t :: ts => gCons (gOf K t) (gsOf K ts)
end
/-- the names of a target -/
def tnNames : Tn → List Nat
  | .name i => [i]
  | .tup [.name i, .name j] => [i, j]
  | .tup [.name i, .name j, .name l] => [i, j, l]
  | _ => []
theorem asn_ok {t : Tn} {d : D} {k : Rho → Prop} {Q : St → Hp → Prop} (p : Rp K IO F H σ ρ) (dv : DV K H (Bad F σ ρ) v d) (h : asnN t d ρ k)
    (q : ∀ σ' ρ', (∀ j, j ∉ tnNames t → σ'[j]? = σ[j]?) → σ'.length = σ.length → Rp K IO F H σ' ρ' → Nx σ ρ H σ' ρ' H → k ρ' → Q σ' H) : gOf K t v σ H Q := by
  unfold asnN at h
  split at h
  · rename_i i
    have h' : k (ρ.set i (some (.dat d))) := by split at h <;> first | exact h.elim | exact h
    obtain ⟨p1, n1⟩ := p.put (i := i) dv
    exact q _ _ (fun j hj => get_set_ne (by simpa [tnNames] using hj)) (by simp) p1 n1 h'
  · rename_i i j a b
    cases dv with
    | tup h1 h2 =>
      cases h2 with
      | cons d1 r1 =>
        cases r1 with
        | cons d2 r2 =>
          cases r2
          have h' : k ((ρ.set i (some (.dat a))).set j (some (.dat b))) := by split at h <;> first | exact h.elim | exact h
          obtain ⟨p1, n1⟩ := p.put (i := i) d1
          obtain ⟨p2, n2⟩ := p1.put (i := j) (n1.dv d2)
          exact ⟨_, _, rfl, h1.sq, rfl, _, _, rfl, _, _, rfl, rfl, q _ _ (fun l hl => by
            simp only [tnNames, List.mem_cons, not_or] at hl
            rw [get_set_ne hl.2.1, get_set_ne hl.1]) (by simp) p2 (n1.trans n2) h'⟩
  · rename_i i j l a b d
    cases dv with
    | tup h1 h2 =>
      cases h2 with
      | cons d1 r1 =>
        cases r1 with
        | cons d2 r2 =>
          cases r2 with
          | cons d3 r3 =>
            cases r3
            have h' : k (((ρ.set i (some (.dat a))).set j (some (.dat b))).set l (some (.dat d))) := by split at h <;> first | exact h.elim | exact h
            obtain ⟨p1, n1⟩ := p.put (i := i) d1
            obtain ⟨p2, n2⟩ := p1.put (i := j) (n1.dv d2)
            obtain ⟨p3, n3⟩ := p2.put (i := l) ((n1.trans n2).dv d3)
            exact ⟨_, _, rfl, h1.sq, rfl, _, _, rfl, _, _, rfl, _, _, rfl, rfl, q _ _ (fun m hm => by
              simp only [tnNames, List.mem_cons, not_or] at hm
              rw [get_set_ne hm.2.2.1, get_set_ne hm.2.1, get_set_ne hm.1]) (by simp) p3 ((n1.trans n2).trans n3) h'⟩
  · exact h.elim
/-! ### comprehensions -/
def Cf.quiet (c : Cf) : Cf := { c with Eh := fun _ _ _ => False }
theorem XC.none {F : Addr → Prop} {σ : St} {ρ : Rho} {H : Hp} : XC c.quiet F (fun _ => False) σ ρ H := fun _ _ _ _ _ _ z => z.elim
theorem comp_imp {own : List (Str × Nat)} {t : Tn} {wi : DTI} {wt : DTT} {we : DTE} (hnm : ∀ j ∈ tnNames t, j ∈ own.map (·.2)) :
    (∀ σ H Q, tD c (fun E ρ Q => wi E ρ fun xs ck ρ1 => noOwn ρ1 (own.map (·.2)) ∧ compL (asnN t) wt we ck (own.map (·.2)) (fun acc ρ2 => Q (.own acc) (restR ρ1 ρ2 (own.map (·.2)))) xs [] (wipeR ρ1 (own.map (·.2)))) σ H Q →
      tLc (tDI c wi) (gOf c.K t) (tDT c.quiet wt) (tD c.quiet we) (own.map (·.2)) σ H Q) := by
  intro σ H Q ⟨F, ρ, E, Qd, rp, hw, xc, kk⟩
  generalize hO : own.map (·.2) = O at *
  refine ⟨F, ρ, E, _, rp, hw, xc, fun J H1 ρ1 xs ck T S n1 p1 fd stay s1 again hz ⟨no, hw2⟩ L hD => ?_⟩
  have kD : ∀ a o, H1 a = some o → upd H1 L (.lst []) a = some o := up_new hD
  obtain ⟨pw, nw⟩ := p1.wipe O
  have wf : Walk J xs.length (fun H => ∃ bad, T bad H) (fun i H x H' => J.yld i H x H') := ⟨fun i H hi ⟨bad, t⟩ => fd.go bad H i t hi, fun H ⟨bad, t⟩ => fd.stop bad H t, fun _ _ _ _ _ _ y => y⟩
  -- the list at L grows; all else as the data say
  let Pv : Nat → Hp → Prop := fun i H => ∃ ρt acc vs, Rp c.K c.IO (fun b => F b ∨ b = L) H (L2.wipe σ O) ρt ∧ (∀ j ∈ O, gt ρt j = none) ∧ Nx σ ρ1 H1 (L2.wipe σ O) ρt H ∧ H L = some (.lst vs) ∧ DVs c.K H (Bad (fun b => F b ∨ b = L) (L2.wipe σ O) ρt) vs acc ∧ acc.length ≤ i ∧
    S (Bad (fun b => F b ∨ b = L) (L2.wipe σ O) ρt) H ∧ compL (asnN t) wt we ck O (fun acc ρ2 => Qd (.own acc) (restR ρ1 ρ2 O)) (xs.drop i) acc ρt
  have agree : ∀ {ρt : Rho}, (∀ j ∈ O, gt ρt j = none) → ∀ i s, gt ρt i = some s → (L2.wipe σ O)[i]? = σ[i]? := fun {ρt} hn i s e => by
    by_cases hi : i ∈ O
    · rw [hn i hi] at e; cases e
    · exact wipe_out hi
  have getT : ∀ {ρt : Rho} {H : Hp}, Rp c.K c.IO (fun b => F b ∨ b = L) H (L2.wipe σ O) ρt → (∀ j ∈ O, gt ρt j = none) → S (Bad (fun b => F b ∨ b = L) (L2.wipe σ O) ρt) H → ck ρt → T (Bad (fun b => F b ∨ b = L) (L2.wipe σ O) ρt) H := fun {ρt H} p hn s hck =>
    again _ ρt _ H p (agree hn) s hck
  have xsAt : ∀ {i : Nat} (h : i < xs.length), xs.drop i = xs[i] :: xs.drop (i + 1) := fun h => List.drop_eq_getElem_cons h
  have hw3 : ∀ {i : Nat} {acc : List D} {ρt : Rho}, compL (asnN t) wt we ck O (fun acc ρ2 => Qd (.own acc) (restR ρ1 ρ2 O)) (xs.drop i) acc ρt → ck ρt := fun {i acc ρt} h => by
    by_cases hlt : i < xs.length
    · rw [xsAt hlt] at h; exact h.1
    · rw [List.drop_eq_nil_of_le (by omega)] at h; exact h.1
  have wiped : ∀ (ρ' : Rho), ∀ j ∈ O, gt (wipeR ρ' O) j = none := fun ρ' j hj => by rw [gt_wipe, if_pos hj]
  refine lc_it wf Pv ?_ (fun i H _ ⟨ρt, acc, vs, p, hn, n, hd, dv, hl, s, cw⟩ => ⟨_, getT p hn s (hw3 cw)⟩) (fun i x H H2 hi ⟨ρt, acc, vs, p, hn, n, hd, dv, hl, s, cw⟩ y => ?_) fun H ⟨ρt, acc, vs, p, hn, n, hd, dv, hl, s, cw⟩ => ?_
  · have pg := pw.guard hD kD (by rw [upd_same]; simp)
    refine ⟨wipeR ρ1 O, [], [], pg, wiped ρ1, ⟨fun a o e q => kD a o (nw.keep a o e q), nw.sub, fun a o e => ⟨o, kD a o e⟩⟩, upd_same, .nil, Nat.le_refl _, ?_, by simpa using hw2⟩
    refine stay _ _ _ _ s1 fun a o e nb => ⟨kD a o e, fun q => ?_⟩
    rcases q with (q | q) | q
    · exact nb (.inl q)
    · subst q; rw [hD] at e; cases e
    · rcases nw.sub a q with z | z
      · exact nb (.inr z)
      · rw [e] at z; cases z
  · -- a turn
    have hck := hw3 cw
    obtain ⟨d, hdx⟩ := get_ex hi
    rw [xsAt hi] at cw
    obtain ⟨_, cw⟩ := cw
    have e0 : xs[i] = d := by rw [List.getElem?_eq_getElem hi] at hdx; exact Option.some.inj hdx
    rw [e0] at cw
    obtain ⟨k2, dx⟩ := fd.yld _ H i x H2 d (getT p hn s hck) (fun a q => p.bad_dom q) hdx y
    obtain ⟨p2, n2⟩ := p.ext k2
    refine asn_ok p2 dx cw fun σ3 ρ3 dif len3 p3 n3 q3 => ?_
    have ws : L2.wipe σ3 O = L2.wipe σ O := wipe_eq (by rw [len3, wipe_len]) fun j hj => by
      rw [dif j (fun q => hj (hnm j q)), wipe_out hj]
    have ww : L2.wipe σ3 O = L2.wipe (L2.wipe σ O) O := by
      rw [ws]
      exact (wipe_eq (by rw [wipe_len]) fun j hj => wipe_out hj).symm
    -- what is to be shown behind the turn
    have fin : ∀ (H4 : Hp) (ρ4 : Rho) (acc' : List DL.D) (vs' : List V), Rp c.K c.IO (fun b => F b ∨ b = L) H4 σ3 ρ4 → Nx (L2.wipe σ O) ρt H σ3 ρ4 H4 → DVs c.K H4 (Bad (fun b => F b ∨ b = L) σ3 ρ4) vs' acc' → acc'.length ≤ i + 1 →
        compL (asnN t) wt we ck O (fun acc ρ2 => Qd (.own acc) (restR ρ1 ρ2 O)) (xs.drop (i + 1)) acc' (wipeR ρ4 O) → Pv (i + 1) (upd H4 L (.lst vs')) := fun H4 ρ4 acc' vs' p4 n4 dv4 hl4 cw4 => by
      obtain ⟨p5, n5⟩ := p4.wipe O
      rw [ws] at p5 n5
      have nA := n4.trans n5
      have nB := n.trans nA
      have bL : ∀ {ρ' : Rho} {σ' : St}, Bad (fun b => F b ∨ b = L) σ' ρ' L := .inl (.inr rfl)
      refine ⟨wipeR ρ4 O, acc', vs', p5.wrF (.inr rfl), wiped ρ4, ⟨fun a o e q => ?_, nB.sub, fun a o e => ?_⟩, upd_same, (n5.dvs dv4).mono fun a o e nb => ⟨?_, nb⟩, hl4, ?_, cw4⟩
      · rw [upd_ne (fun z => by subst z; rw [hD] at e; cases e)]
        exact nB.keep a o e q
      · by_cases ha : a = L
        · subst ha; rw [hD] at e; cases e
        · rw [upd_ne ha]; exact nB.there a o e
      · rw [upd_ne (fun z => nb (by subst z; exact bL))]; exact e
      · refine stay _ _ _ _ s fun a o e nb => ?_
        obtain ⟨h1, h2⟩ := nA.bad (F := fun b => F b ∨ b = L) a o e nb
        exact ⟨by rw [upd_ne (fun z => nb (by subst z; exact bL))]; exact h1, h2⟩
    have nO : ∀ {σ' : St} {ρ' : Rho} {H' : Hp}, Rp c.K c.IO (fun b => F b ∨ b = L) H' σ' ρ' → ¬ Own σ' ρ' L := fun p q => p.own_ne q (.inr rfl)
    have hD3 : H2 L = some (.lst vs) := k2 _ _ hd
    have dv3 := (n2.trans n3).dvs (F := fun b => F b ∨ b = L) dv
    refine ⟨ws, (fun b => F b ∨ b = L), ρ3, (fun _ => False), _, p3, q3, XC.none, fun b H3 ρ4 n4 p4 q4 => ?_⟩
    have hD4 := n4.keep _ _ hD3 (nO p3)
    have dv4 := n4.dvs dv3
    cases b with
    | false =>
      have := fin H3 ρ4 acc vs p4 ((n2.trans n3).trans n4) dv4 (by omega) q4
      have e : upd H3 L (.lst vs) = H3 := by
        funext a
        by_cases ha : a = L
        · subst ha; rw [upd_same, hD4]
        · rw [upd_ne ha]
      rw [e] at this
      exact this
    | true =>
      refine ⟨(fun b => F b ∨ b = L), ρ4, (fun _ => False), _, p4, q4, XC.none, fun v H4 ρ5 r n5 ok5 f5 q5 => ?_⟩
      obtain ⟨d', ρ6, q6, p6, dv6, n6⟩ := esc_ok ok5 q5
      have hD5 := n5.keep _ _ hD4 (nO p4)
      have dv5 := (n5.trans n6).dvs dv4
      refine ⟨vs, hD5, by rw [dv.length]; omega, ?_⟩
      exact fin H4 ρ6 (acc ++ [d']) (vs ++ [v]) p6 ((((n2.trans n3).trans n4).trans n5).trans n6) (dv5.append (.cons dv6 .nil)) (by simp; omega) q6
  · -- the end
    rw [List.drop_eq_nil_of_le (Nat.le_refl _)] at cw
    obtain ⟨_, q⟩ := cw
    have hlen : ρ1.length = ρt.length := by
      have h1 := p1.len
      have h2 := p.len
      rw [wipe_len] at h2
      omega
    have gr : ∀ j, gt (restR ρ1 ρt O) j = if j ∈ O then gt ρ1 j else gt ρt j := fun j => gt_rest O ρ1 ρt j hlen
    have ownE : ∀ a, Own σ (restR ρ1 ρt O) a → Own (L2.wipe σ O) ρt a := fun a ⟨j, io, zs, h1, h2⟩ => by
      rw [gr] at h1
      split at h1
      · rename_i hj; exact (no j hj io zs h1).elim
      · rename_i hj; exact ⟨j, io, zs, h1, by rw [wipe_out hj]; exact h2⟩
    have nr : Nx σ ρ1 H1 σ (restR ρ1 ρt O) H := ⟨n.keep, fun a q => n.sub a (ownE a q), n.there⟩
    have badE : ∀ a, ¬ Bad (fun b => F b ∨ b = L) (L2.wipe σ O) ρt a → ¬ Bad (FF F (.ref L) (.own acc)) σ (restR ρ1 ρt O) a := fun a nb q => by
      rcases q with (q | q) | q
      · exact nb (.inl (.inl q))
      · cases q; exact nb (.inl (.inr rfl))
      · exact nb (.inr (ownE a q))
    have hD0 : ∀ a o, H1 a = some o → a ≠ L := fun a o e z => by subst z; rw [hD] at e; cases e
    refine kk (.ref L) H (restR ρ1 ρt O) (.own acc) (n1.trans nr) ⟨⟨fun j d' e => ?_, fun j io zs e => ?_, fun j l io jo zs zs' a h1 h2 h3 h4 => ?_, fun a q => ?_, ?_⟩, ⟨L, vs, rfl, hd, dv.mono fun a o e nb => ⟨e, badE a nb⟩⟩, fun a q z => ?_⟩ (fun a q => n1.fresh (by cases q; exact hD)) q
    · rw [gr] at e
      split at e
      · obtain ⟨u, h1, h2⟩ := p1.dat j d' e
        refine ⟨u, h1, h2.mono fun a o e nb => ?_⟩
        obtain ⟨h3, h4⟩ := nr.bad (F := F) a o e nb
        exact ⟨h3, fun q => by
          rcases q with (q | q) | q
          · exact h4 (.inl q)
          · cases q; exact hD0 L o e rfl
          · exact h4 (.inr q)⟩
      · rename_i hj
        obtain ⟨u, h1, h2⟩ := p.dat j d' e
        exact ⟨u, by rw [← wipe_out hj]; exact h1, h2.mono fun a o e nb => ⟨e, badE a nb⟩⟩
    · rw [gr] at e
      split at e
      · rename_i hj; exact (no j hj io zs e).elim
      · rename_i hj
        obtain ⟨a, ws, h1, h2, h3, h4, h5⟩ := p.own j io zs e
        exact ⟨a, ws, by rw [← wipe_out hj]; exact h1, h2, h3.mono fun a o e nb => ⟨e, badE a nb⟩, fun z => h4 (z.elim .inl fun y => by cases y; exact .inr rfl), h5⟩
    · rw [gr] at h1 h2
      split at h1
      · rename_i hj; exact (no j hj io zs h1).elim
      · rename_i hj
        split at h2
        · rename_i hl'; exact (no l hl' jo zs' h2).elim
        · rename_i hl'
          exact p.inj j l io jo zs zs' a h1 h2 (by rw [wipe_out hj]; exact h3) (by rw [wipe_out hl']; exact h4)
    · rcases q with q | q
      · exact p.fdom a (.inl q)
      · cases q; rw [hd]; simp
    · rw [len_rest, ← hlen]; exact p1.len
    · cases q; exact p1.fdom L z hD
end
end DL
/-! DL15: statements: what they mean at the level of data. -/
namespace DL
open PySem PySem.Spec PyProof.Rows L2
structure DEn where
  nx : Rho → Prop
  rt : Rs → Rho → Prop
  bk : Rho → Prop
  ct : Rho → Prop
abbrev DTS := (Xn → Prop) → DEn → Rho → Prop
/-- the name holds a list of its own -/
def isOwn (ρ : Rho) (i : Nat) : Prop := match gt ρ i with
  | some (.own _ _) => True
  | _ => False
/-- a name is given a result -/
def putR' (i : Nat) : Rs → Rho → (Rho → Prop) → Prop
  | .own xs, ρ, k => k (ρ.set i (some (.own false xs)))
  | .dat d, ρ, k => k (ρ.set i (some (.dat d)))
  | .ref j, ρ, k => esc (.ref j) ρ fun d ρ1 => k (ρ1.set i (some (.dat d)))
def putR (i : Nat) (r : Rs) (ρ : Rho) (k : Rho → Prop) : Prop := match gt ρ i with
  | some (.own true _) => False
  | _ => putR' i r ρ k
mutual
/-- a result goes to a target -/
def asn (Γ : Gam) : Ta → Rs → (Xn → Prop) → Rho → (Rho → Prop) → Prop
  | .name i, r, _, ρ, k => putR i r ρ k
  | .sub i ix, r, E, ρ, k => esc r ρ fun d ρ1 => isOwn ρ1 i ∧ (wp Γ ix).e E ρ1 fun q ρ2 => match q with
    | .dat (.int j) => match gt ρ2 i with
      | some (.own b xs) => match ixN xs.length j with
        | some n => k (ρ2.set i (some (.own b (xs.set n d))))
        | none => False
      | _ => False
    | _ => False
  | .tup ts, r, E, ρ, k => match r with
    | .dat (.tuple ds) => ds.length = ts.length ∧ asns Γ ts (ds.map .dat) E ρ k
    | _ => False
def asns (Γ : Gam) : List Ta → List Rs → (Xn → Prop) → Rho → (Rho → Prop) → Prop
  | [], rs, _, ρ, k => match rs with
    | [] => k ρ
    | _ => False
  | t :: ts, rs, E, ρ, k => match rs with
    | r :: rs => asn Γ t r E ρ fun ρ1 => asns Γ ts rs E ρ1 k
    | [] => False
end
/-- names that are read become data -/
def settle : List Rs → Rho → (List Rs → Rho → Prop) → Prop
  | [], ρ, k => k [] ρ
  | .ref i :: rs, ρ, k => esc (.ref i) ρ fun d ρ1 => settle rs ρ1 fun rs' ρ2 => k (.dat d :: rs') ρ2
  | r :: rs, ρ, k => settle rs ρ fun rs' ρ2 => k (r :: rs') ρ2
def forL (g : D → Rho → (Rho → Prop) → Prop) (b : DEn → Rho → Prop) (d : DEn) : List D → Rho → Prop
  | [], ρ => d.nx ρ
  | x :: xs, ρ => g x ρ fun ρ1 => b { nx := forL g b d xs, ct := forL g b d xs, bk := d.nx, rt := d.rt } ρ1
def whileP (t : DTT) (b : DTS) : DTS := fun E d ρ => ∃ I : Nat → Rho → Prop, (∃ m, I m ρ) ∧ ∀ m ρ, I m ρ →
  t E ρ fun q ρ1 => if q = true then b E { nx := fun ρ' => ∃ m', m' < m ∧ I m' ρ', ct := fun ρ' => ∃ m', m' < m ∧ I m' ρ', bk := d.nx, rt := d.rt } ρ1 else d.nx ρ1
mutual
def wpS (Γ : Gam) : Sm → DTS
  | .asg t e => fun E d ρ => (wp Γ e).e E ρ fun r ρ1 => asn Γ t r E ρ1 d.nx
  | .par ts es => fun E d ρ => eL (wps Γ es) E ρ fun rs ρ1 => settle rs ρ1 fun rs' ρ2 => asns Γ ts rs' E ρ2 d.nx
  | .aug i o e => fun E d ρ => match gt ρ i with
    | some (.dat (.int a)) => (wp Γ e).e E ρ fun r ρ1 => match r, o with
      | .dat (.int b), .add => d.nx (ρ1.set i (some (.dat (.int (a + b)))))
      | .dat (.int b), .sub => d.nx (ρ1.set i (some (.dat (.int (a - b)))))
      | _, _ => False
    | _ => False
  | .expr e => fun E d ρ => (wp Γ e).e E ρ fun _ ρ1 => d.nx ρ1
  | .app i e => fun E d ρ => isOwn ρ i ∧ (wp Γ e).e E ρ fun r ρ1 => esc r ρ1 fun x ρ2 => match gt ρ2 i with
    | some (.own b xs) => xs.length < sizeLine ∧ d.nx (ρ2.set i (some (.own b (xs ++ [x]))))
    | _ => False
  | .ext i e => fun E d ρ => isOwn ρ i ∧ (wp Γ e).e E ρ fun r ρ1 => match r with
    | .own ys => match gt ρ1 i with
      | some (.own b xs) => LenOk (xs.length + ys.length) ∧ d.nx (ρ1.set i (some (.own b (xs ++ ys))))
      | _ => False
    | _ => False
  | .ins i a b => fun E d ρ => isOwn ρ i ∧ (wp Γ a).e E ρ fun q ρ1 => (wp Γ b).e E ρ1 fun r ρ2 => esc r ρ2 fun x ρ3 => match q with
    | .dat (.int j) => match gt ρ3 i with
      | some (.own io xs) => (0 ≤ j ∧ j ≤ xs.length ∧ xs.length < 1000) ∧ d.nx (ρ3.set i (some (.own io (xs.take j.toNat ++ x :: xs.drop j.toNat))))
      | _ => False
    | _ => False
  | .ret e => fun E d ρ => (wp Γ e).e E ρ fun r ρ1 => d.rt r ρ1
  | .retN => fun _ d ρ => d.rt (.dat .none) ρ
  | .ite c a b => fun E d ρ => (wp Γ c).t E ρ fun q ρ1 => if q = true then wpSs Γ a E d ρ1 else wpSs Γ b E d ρ1
  | .for_ t it b => fun E d ρ => (wp Γ it).f E ρ fun xs _ ρ1 => forL (asnN t) (wpSs Γ b E) d xs ρ1
  | .while_ c b => whileP (wp Γ c).t (wpSs Γ b)
  | .raise_ x e => fun E d ρ => False
  | .brk => fun _ d ρ => d.bk ρ
  | .cont => fun _ d ρ => d.ct ρ
  | .pass => fun _ d ρ => d.nx ρ
def wpSs (Γ : Gam) : List Sm → DTS
  | [] => fun _ d ρ => d.nx ρ
  | s :: ss => fun E d ρ => wpS Γ s E { d with nx := fun ρ1 => wpSs Γ ss E d ρ1 } ρ
end
def tDS (c : Cf) (w : DTS) : TS := fun D σ H => ∃ F ρ E d, Rp c.K c.IO F H σ ρ ∧ w E d ρ ∧ XC c F E σ ρ H ∧
  (∀ σ' H' ρ', Nx σ ρ H σ' ρ' H' → Rp c.K c.IO F H' σ' ρ' → d.nx ρ' → D.nx σ' H') ∧
  (∀ v H' σ' ρ' r, Nx σ ρ H σ' ρ' H' → RsOk c.K c.IO F H' σ' ρ' v r → (∀ a, fr v r a → H a = none) → d.rt r ρ' → D.rt v H') ∧
  (∀ σ' H' ρ', Nx σ ρ H σ' ρ' H' → Rp c.K c.IO F H' σ' ρ' → d.bk ρ' → D.bk σ' H') ∧
  (∀ σ' H' ρ', Nx σ ρ H σ' ρ' H' → Rp c.K c.IO F H' σ' ρ' → d.ct ρ' → D.ct σ' H')
section
variable {X : Cx} {c : Cf} {K : PySem.W.Frag} {IO : Nat → Option Addr} {F G : Addr → Prop} {bad : Addr → Prop} {H H1 H2 H' : Hp} {σ σ1 : St} {ρ ρ1 ρ2 : Rho} {v : V} {r : Rs} {E : Xn → Prop}
  {e a b tg : Expr} {es : List Expr} {pos : Pos} {w wa wb wc : DTE} {wr : DTR} {n : Nat} {st : Stmt} {sts : List Stmt} {ws wss : DTS}
theorem s_nil : PSs X [] (tDS c fun _ d ρ => d.nx ρ) := (pss_nil (X := X)).imp fun D σ H ⟨F, ρ, E, d, rp, hw, xc, k1, _, _, _⟩ => k1 _ _ _ Nx.refl rp hw
theorem s_cons (h1 : PS X st (tDS c ws)) (h2 : PSs X sts (tDS c wss)) : PSs X (st :: sts) (tDS c fun E d ρ => ws E { d with nx := fun ρ1 => wss E d ρ1 } ρ) :=
  (pss_cons h1 h2).imp fun D σ H ⟨F, ρ, E, d, rp, hw, xc, k1, k2, k3, k4⟩ => ⟨F, ρ, E, _, rp, hw, xc,
    fun σ' H' ρ' n1 p1 q => ⟨F, ρ', E, d, p1, q, xc.nx n1, fun σ2 H2 ρ2 n2 p2 q2 => k1 _ _ _ (n1.trans n2) p2 q2, fun v H2 σ2 ρ2 r n2 p2 f2 q2 => k2 _ _ _ _ _ (n1.trans n2) p2 (fun a z => n1.fresh (f2 a z)) q2,
      fun σ2 H2 ρ2 n2 p2 q2 => k3 _ _ _ (n1.trans n2) p2 q2, fun σ2 H2 ρ2 n2 p2 q2 => k4 _ _ _ (n1.trans n2) p2 q2⟩, k2, k3, k4⟩
theorem s_pass : PS X (.Pass pos) (tDS c fun _ d ρ => d.nx ρ) := (ps_pass (X := X)).imp fun D σ H ⟨F, ρ, E, d, rp, hw, xc, k1, _, _, _⟩ => k1 _ _ _ Nx.refl rp hw
theorem s_brk : PS X (.Break pos) (tDS c fun _ d ρ => d.bk ρ) := (ps_break (X := X)).imp fun D σ H ⟨F, ρ, E, d, rp, hw, xc, _, _, k3, _⟩ => k3 _ _ _ Nx.refl rp hw
theorem s_cont : PS X (.Continue pos) (tDS c fun _ d ρ => d.ct ρ) := (ps_continue (X := X)).imp fun D σ H ⟨F, ρ, E, d, rp, hw, xc, _, _, _, k4⟩ => k4 _ _ _ Nx.refl rp hw
theorem s_never : PS X st (tDS c fun _ _ _ => False) := (ps_never (X := X)).imp fun D σ H ⟨_, _, _, _, _, hw, _⟩ => hw.elim
theorem s_expr (h : PE X e (tD c w)) (hs : swapsWith e none pos.line X.env = pure false) : PS X (.Expr e pos) (tDS c fun E d ρ => w E ρ fun _ ρ1 => d.nx ρ1) :=
  (ps_expr h hs).imp fun D σ H ⟨F, ρ, E, d, rp, hw, xc, k1, _, _, _⟩ => ⟨F, ρ, E, _, rp, hw, xc, fun v H1 ρ1 r n1 ok1 f1 q1 => k1 _ _ _ n1 ok1.rp' q1⟩
theorem s_ret (h : PE X e (tD c w)) : PS X (.Return (some e) pos) (tDS c fun E d ρ => w E ρ fun r ρ1 => d.rt r ρ1) :=
  (ps_ret h).imp fun D σ H ⟨F, ρ, E, d, rp, hw, xc, _, k2, _, _⟩ => ⟨F, ρ, E, _, rp, hw, xc, fun v H1 ρ1 r n1 ok1 f1 q1 => k2 _ _ _ _ _ n1 ok1 f1 q1⟩
theorem s_retN : PS X (.Return none pos) (tDS c fun _ d ρ => d.rt (.dat .none) ρ) :=
  (ps_retN (X := X)).imp fun D σ H ⟨F, ρ, E, d, rp, hw, xc, _, k2, _, _⟩ => k2 _ _ _ _ _ Nx.refl (.ofDat rp .non) (fun _ z => z.elim) hw
theorem s_ite {t : Expr} {l m : List Stmt} {wt : DTT} {w1 w2 : DTS} (ht : PT X t (tDT c wt)) (hl : PSs X l (tDS c w1)) (hm : PSs X m (tDS c w2)) : PS X (.If t l m pos) (tDS c fun E d ρ => wt E ρ fun q ρ1 => if q = true then w1 E d ρ1 else w2 E d ρ1) :=
  (ps_if ht hl hm).imp fun D σ H ⟨F, ρ, E, d, rp, hw, xc, k1, k2, k3, k4⟩ => ⟨F, ρ, E, _, rp, hw, xc, fun b H1 ρ1 n1 p1 q1 => by
    cases b with
    | true => exact ⟨F, ρ1, E, d, p1, q1, xc.nx n1, fun σ2 H2 ρ2 n2 p2 q2 => k1 _ _ _ (n1.trans n2) p2 q2, fun v H2 σ2 ρ2 r n2 p2 f2 q2 => k2 _ _ _ _ _ (n1.trans n2) p2 (fun a z => n1.fresh (f2 a z)) q2,
      fun σ2 H2 ρ2 n2 p2 q2 => k3 _ _ _ (n1.trans n2) p2 q2, fun σ2 H2 ρ2 n2 p2 q2 => k4 _ _ _ (n1.trans n2) p2 q2⟩
    | false => exact ⟨F, ρ1, E, d, p1, q1, xc.nx n1, fun σ2 H2 ρ2 n2 p2 q2 => k1 _ _ _ (n1.trans n2) p2 q2, fun v H2 σ2 ρ2 r n2 p2 f2 q2 => k2 _ _ _ _ _ (n1.trans n2) p2 (fun a z => n1.fresh (f2 a z)) q2,
      fun σ2 H2 ρ2 n2 p2 q2 => k3 _ _ _ (n1.trans n2) p2 q2, fun σ2 H2 ρ2 n2 p2 q2 => k4 _ _ _ (n1.trans n2) p2 q2⟩⟩
theorem s_while {t : Expr} {l : List Stmt} {wt : DTT} {w1 : DTS} (hp : PassesOwn (model X.prog X.w) X.A X.env X.xe) (ht : PT X t (tDT c wt)) (hl : PSs X l (tDS c w1)) : PS X (.While t l [] pos) (tDS c (whileP wt w1)) :=
  (ps_while hp ht hl).imp fun D σ H ⟨F, ρ, E, d, rp, ⟨I, ⟨m, im⟩, step⟩, xc, k1, k2, k3, k4⟩ => by
    refine ⟨fun m σ' H' => ∃ ρ', Rp c.K c.IO F H' σ' ρ' ∧ Nx σ ρ H σ' ρ' H' ∧ I m ρ', ⟨m, ρ, rp, Nx.refl, im⟩, fun m σ1 H1 ⟨ρ1, p1, n1, i1⟩ => ?_⟩
    refine ⟨F, ρ1, E, _, p1, step m ρ1 i1, xc.nx n1, fun b H2 ρ2 n2 p2 q2 => ?_⟩
    have n12 := n1.trans n2
    cases b with
    | false => exact k1 _ _ _ n12 p2 q2
    | true =>
      refine ⟨fun σ' H' => ∃ m', m' < m ∧ ∃ ρ', Rp c.K c.IO F H' σ' ρ' ∧ Nx σ ρ H σ' ρ' H' ∧ I m' ρ', fun σ' H' h => h, F, ρ2, E, _, p2, q2, xc.nx n12, fun σ3 H3 ρ3 n3 p3 ⟨m', hm, i3⟩ => ⟨m', hm, ρ3, p3, n12.trans n3, i3⟩, fun v H3 σ3 ρ3 r n3 p3 f3 q3 => k2 _ _ _ _ _ (n12.trans n3) p3 (fun a z => n12.fresh (f3 a z)) q3,
        fun σ3 H3 ρ3 n3 p3 q3 => k1 _ _ _ (n12.trans n3) p3 q3, fun σ3 H3 ρ3 n3 p3 ⟨m', hm, i3⟩ => ⟨m', hm, ρ3, p3, n12.trans n3, i3⟩⟩
theorem s_for {iter : Expr} {l : List Stmt} {wi : DTI} {t : Tn} {w1 : DTS} (hp : PassesOwn (model X.prog X.w) X.A X.env X.xe) (hc : X.calm = true) (hi : PI X tg iter (tDF c wi)) (hg : PG X tg (gOf c.K t)) (hl : PSs X l (tDS c w1))
    (hs : ∀ x, foldedSetIterable iter X.env x = pure x) : PS X (.For tg iter l [] pos) (tDS c fun E d ρ => wi E ρ fun xs _ ρ1 => forL (asnN t) (w1 E) d xs ρ1) :=
  (ps_for hp hc hi hg hl hs).imp fun D σ H ⟨F, ρ, E, d, rp, hw, xc, k1, k2, k3, k4⟩ => by
    refine ⟨F, ρ, E, _, rp, hw, xc, fun J H1 ρ1 xs ck S n1 p1 fd stay s1 hz hw2 => ?_⟩
    have wf : Walk J xs.length (fun H => ∃ bad, S bad H) (fun i H x H' => J.yld i H x H') := ⟨fun i H hi ⟨bad, t⟩ => fd.go bad H i t hi, fun H ⟨bad, t⟩ => fd.stop bad H t, fun _ _ _ _ _ _ y => y⟩
    refine for_it wf (fun i σ' H' => ∃ ρ', Rp c.K c.IO F H' σ' ρ' ∧ Nx σ ρ H σ' ρ' H' ∧ S (Bad F σ' ρ') H' ∧ forL (asnN t) (w1 E) d (xs.drop i) ρ') ⟨ρ1, p1, n1, s1, by simpa using hw2⟩ (fun i σ' H' _ ⟨ρ', p, n, s, _⟩ => ⟨_, s⟩) (fun i x σ' H' H2 hi ⟨ρ', p, n, s, q⟩ y => ?_) fun σ' H' ⟨ρ', p, n, s, q⟩ => ?_
    · obtain ⟨dx, hdx⟩ := get_ex hi
      rw [List.drop_eq_getElem_cons hi] at q
      have e0 : xs[i] = dx := by rw [List.getElem?_eq_getElem hi] at hdx; exact Option.some.inj hdx
      rw [e0] at q
      obtain ⟨k5, dv⟩ := fd.yld _ H' i x H2 dx s (fun a z => p.bad_dom z) hdx y
      obtain ⟨p2, n2⟩ := p.ext k5
      have s2 : S (Bad F σ' ρ') H2 := stay _ _ _ _ s fun a o e nb => ⟨k5 a o e, nb⟩
      refine asn_ok p2 dv q fun σ3 ρ3 dif len3 p3 n3 q3 => ?_
      have n13 := (n.trans n2).trans n3
      have s3 : S (Bad F σ3 ρ3) H2 := stay _ _ _ _ s2 n3.bad
      have again : ∀ σ4 H4 ρ4, Nx σ3 ρ3 H2 σ4 ρ4 H4 → Rp c.K c.IO F H4 σ4 ρ4 → forL (asnN t) (w1 E) d (xs.drop (i + 1)) ρ4 → ∃ ρ', Rp c.K c.IO F H4 σ4 ρ' ∧ Nx σ ρ H σ4 ρ' H4 ∧ S (Bad F σ4 ρ') H4 ∧ forL (asnN t) (w1 E) d (xs.drop (i + 1)) ρ' :=
        fun σ4 H4 ρ4 n4 p4 q4 => ⟨ρ4, p4, n13.trans n4, stay _ _ _ _ s3 n4.bad, q4⟩
      exact ⟨F, ρ3, E, _, p3, q3, xc.nx n13, again, fun v H4 σ4 ρ4 r n4 p4 f4 q4 => k2 _ _ _ _ _ (n13.trans n4) p4 (fun a z => n13.fresh (f4 a z)) q4,
        fun σ4 H4 ρ4 n4 p4 q4 => k1 _ _ _ (n13.trans n4) p4 q4, again⟩
    · rw [List.drop_eq_nil_of_le (Nat.le_refl _)] at q
      exact k1 _ _ _ n p q
end
end DL
/-! DL16: assignments, lists that grow. -/
namespace DL
open PySem PySem.Spec PyProof.Rows L2
section
variable {X : Cx} {c : Cf} {K : PySem.W.Frag} {IO : Nat → Option Addr} {F G : Addr → Prop} {bad : Addr → Prop} {H0 H H1 H2 H' : Hp} {σ0 σ σ1 : St} {ρ0 ρ ρ1 ρ2 : Rho} {v : V} {r : Rs} {E : Xn → Prop} {Γ : Gam}
  {e a b tg : Expr} {es : List Expr} {pos : Pos} {w wa wb wc : DTE} {wr : DTR} {n : Nat} {st : Stmt} {sts : List Stmt} {ws wss : DTS}
/-- a name is given a list in hand -/
theorem Rp.putOwn {i : Nat} {x : Addr} {xs : List D} {vs : List V} (p : Rp K IO (FF F (.ref x) (.own xs)) H σ ρ) (hf : ¬ F x) (hx : H x = some (.lst vs)) (dv : DVs K H (Bad (FF F (.ref x) (.own xs)) σ ρ) vs xs) :
    Rp K IO F H (σ.set i (some (.ref x))) (ρ.set i (some (.own false xs))) ∧ ∀ a, Own (σ.set i (some (.ref x))) (ρ.set i (some (.own false xs))) a → Own σ ρ a ∨ a = x := by
  have nO : ¬ Own σ ρ x := fun q => p.own_ne q (.inr rfl)
  have ho : ∀ a, Own (σ.set i (some (.ref x))) (ρ.set i (some (.own false xs))) a → Own σ ρ a ∨ a = x := fun a ⟨j, io, zs, h1, h2⟩ => by
    by_cases hj : j = i
    · subst hj
      have hl := gt_lt h1
      rw [List.length_set] at hl
      rw [List.getElem?_set_self (by rw [← p.len]; exact hl)] at h2
      cases h2
      exact .inr rfl
    · rw [gt_set_ne hj] at h1
      rw [get_set_ne hj] at h2
      exact .inl ⟨j, io, zs, h1, h2⟩
  have km : ∀ a o, H a = some o → ¬ Bad (FF F (.ref x) (.own xs)) σ ρ a → H a = some o ∧ ¬ Bad F (σ.set i (some (.ref x))) (ρ.set i (some (.own false xs))) a := fun a o e nb => ⟨e, fun q => by
    rcases q with q | q
    · exact nb (.inl (.inl q))
    · rcases ho a q with z | z
      · exact nb (.inr z)
      · subst z; exact nb (.inl (.inr rfl))⟩
  refine ⟨⟨fun j d e => ?_, fun j io zs e => ?_, fun j l io jo zs zs' y h1 h2 h3 h4 => ?_, fun a q => p.fdom a (.inl q), by simpa using p.len⟩, ho⟩
  · by_cases hj : j = i
    · subst hj
      have hl := gt_lt e
      rw [List.length_set] at hl
      rw [gt_set_self hl] at e; cases e
    · rw [gt_set_ne hj] at e
      obtain ⟨u, h1, h2⟩ := p.dat j d e
      exact ⟨u, by rw [get_set_ne hj]; exact h1, h2.mono km⟩
  · by_cases hj : j = i
    · subst hj
      have hl := gt_lt e
      rw [List.length_set] at hl
      rw [gt_set_self hl] at e; cases e
      exact ⟨x, vs, by rw [List.getElem?_set_self (by rw [← p.len]; exact hl)], hx, dv.mono km, hf, fun z => by cases z⟩
    · rw [gt_set_ne hj] at e
      obtain ⟨y, us, h1, h2, h3, h4, h5⟩ := p.own j io zs e
      exact ⟨y, us, by rw [get_set_ne hj]; exact h1, h2, h3.mono km, fun z => h4 (.inl z), h5⟩
  · by_cases hj : j = i
    · by_cases hl : l = i
      · rw [hj, hl]
      · subst hj
        have hlt := gt_lt h1
        rw [List.length_set] at hlt
        rw [List.getElem?_set_self (by rw [← p.len]; exact hlt)] at h3
        cases h3
        rw [gt_set_ne hl] at h2
        rw [get_set_ne hl] at h4
        exact (nO ⟨l, _, _, h2, h4⟩).elim
    · by_cases hl : l = i
      · subst hl
        have hlt := gt_lt h2
        rw [List.length_set] at hlt
        rw [List.getElem?_set_self (by rw [← p.len]; exact hlt)] at h4
        cases h4
        rw [gt_set_ne hj] at h1
        rw [get_set_ne hj] at h3
        exact (nO ⟨j, _, _, h1, h3⟩).elim
      · rw [gt_set_ne hj] at h1
        rw [gt_set_ne hl] at h2
        rw [get_set_ne hj] at h3
        rw [get_set_ne hl] at h4
        exact p.inj j l _ _ _ _ y h1 h2 h3 h4
/-- the list of a name is written -/
theorem Rp.setOwn {i : Nat} {x : Addr} {bo : Bool} {xs ys : List D} {us : List V} (p : Rp K IO F H σ ρ) (e : gt ρ i = some (.own bo xs)) (hv : σ[i]? = some (some (.ref x))) (dv : DVs K H (Bad F σ ρ) us ys) :
    Rp K IO F (upd H x (.lst us)) σ (ρ.set i (some (.own bo ys))) ∧ Nx σ ρ H σ (ρ.set i (some (.own bo ys))) (upd H x (.lst us)) := by
  obtain ⟨y, ws, e1, e2, _⟩ := p.own i _ _ e
  rw [hv] at e1; cases e1
  have hO : Own σ ρ x := ⟨i, bo, xs, e, hv⟩
  have A : AfterIo K (fun b => Bad F σ ρ b ∨ b = x) x H .non (upd H x (.lst us)) (.dat .none) ys := ⟨fun b o q nb => by rw [upd_ne nb]; exact q, ⟨us, upd_same, dv.mono fun b o q nb => by
    have hb : b ≠ x := fun z => nb (by subst z; exact .inr hO)
    refine ⟨by rw [upd_ne hb]; exact q, fun z => ?_⟩
    rcases z with (z | z) | z
    · exact nb z
    · exact hb z
    · exact z⟩, .non⟩
  obtain ⟨n1, ok, _⟩ := A.ref p e hv
  exact ⟨ok.rp', n1⟩
mutual
def gTa (c : Cf) (Γ : Gam) : Ta → TG
  | .name i => gName i
  | .sub i ix => gSub (tVar i) (tD c (wp Γ ix).e) rSetL
  | .tup ts => gTup c.K ts.length (gTas c Γ ts)
def gTas (c : Cf) (Γ : Gam) : List Ta → TGs
  | [] => gNil
  | t :: ts => gCons (gTa c Γ t) (gTas c Γ ts)
end
theorem DVs.hs : ∀ {vs : List V} {ds : List D}, DVs K H bad vs ds → Hs K H bad σ vs (ds.map .dat) []
  | _, [], h => by cases h; exact .nil
  | _, d :: ds, h => by cases h with | cons a r => exact .val a (by simp) (DVs.hs r)
theorem own_at {i : Nat} (p : Rp K IO F H σ ρ) (h : isOwn ρ i) : ∃ b xs x us, gt ρ i = some (.own b xs) ∧ σ[i]? = some (some (.ref x)) ∧ H x = some (.lst us) ∧ DVs K H (Bad F σ ρ) us xs := by
  unfold isOwn at h
  split at h
  · rename_i b xs e
    obtain ⟨x, us, h1, h2, h3, _⟩ := p.own i _ _ e
    exact ⟨b, xs, x, us, e, h1, h2, h3⟩
  · exact h.elim
/-- from a state with results in hand (P) to one in which they are names' -/
structure Nr (P : Addr → Prop) (σ : St) (ρ : Rho) (H : Hp) (σ' : St) (ρ' : Rho) (H' : Hp) : Prop where
  keep : ∀ a o, H a = some o → ¬ Own σ ρ a → ¬ P a → H' a = some o
  sub : ∀ a, Own σ' ρ' a → Own σ ρ a ∨ H a = none ∨ P a
  there : ∀ a o, H a = some o → ∃ o', H' a = some o'
theorem Nx.nr {P : Addr → Prop} (n : Nx σ ρ H σ1 ρ1 H1) : Nr P σ ρ H σ1 ρ1 H1 := ⟨fun a o e no _ => n.keep a o e no, fun a q => (n.sub a q).imp id .inl, n.there⟩
mutual
theorem asn_one {Q : St → Hp → Prop} : ∀ (t : Ta) {F : Addr → Prop} {v : V} {r : Rs} {σ : St} {ρ : Rho} {H : Hp} {k : Rho → Prop}, Nx σ0 ρ0 H0 σ ρ H → (∀ a, fr v r a → H0 a = none) → RsOk c.K c.IO F H σ ρ v r → XC c F E σ0 ρ0 H0 → asn Γ t r E ρ k →
    (∀ σ' H' ρ', Nx σ0 ρ0 H0 σ' ρ' H' → Nr (fr v r) σ ρ H σ' ρ' H' → Rp c.K c.IO F H' σ' ρ' → k ρ' → Q σ' H') → gTa c Γ t v σ H Q
  | .name i, F, v, r, σ, ρ, H, k, n1, f1, ok, xc, h, q => by
    simp only [asn] at h
    unfold putR at h
    have h' : putR' i r ρ k := by split at h <;> first | exact h.elim | exact h
    clear h
    simp only [gTa]
    cases r with
    | dat d =>
      obtain ⟨p2, n2⟩ := ok.rp'.put (i := i) (show DV c.K H (Bad F σ ρ) v d from ok.r1')
      exact q _ _ _ (n1.trans n2) n2.nr p2 h'
    | ref j =>
      simp only [putR'] at h'
      obtain ⟨d, ρ', h2, p2, d2, n2⟩ := esc_ok ok h'
      obtain ⟨p3, n3⟩ := p2.put (i := i) d2
      exact q _ _ _ ((n1.trans n2).trans n3) (n2.trans n3).nr p3 h2
    | own xs =>
      obtain ⟨x, vs, rfl, e2, e3⟩ := ok.r1
      obtain ⟨p2, ho⟩ := ok.rp.putOwn (i := i) (ok.nf x rfl) e2 e3
      refine q _ _ _ ⟨n1.keep, fun a z => ?_, n1.there⟩ ⟨fun _ _ e _ _ => e, fun a z => ?_, fun a o e => ⟨o, e⟩⟩ p2 h'
      · rcases ho a z with y | y
        · exact n1.sub a y
        · subst y; exact .inr (f1 a rfl)
      · rcases ho a z with y | y
        · exact .inl y
        · subst y; exact .inr (.inr rfl)
  | .sub i ix, F, v, r, σ, ρ, H, k, n1, f1, ok, xc, h, q => by
    simp only [asn] at h
    obtain ⟨d, ρ1, h2, p2, d2, n2⟩ := esc_ok ok h
    obtain ⟨io, h3⟩ := h2
    obtain ⟨b0, xs0, x, us0, e0, e1, e2, e3⟩ := own_at p2 io
    simp only [gTa]
    refine ⟨.ref x, e1, F, ρ1, E, _, p2, h3, xc.nx (n1.trans n2), fun iv H3 ρ3 r3 n3 ok3 f3 q3 => ?_⟩
    split at q3
    · rename_i j
      obtain rfl := (DR.dv ok3.r1').int
      split at q3
      · rename_i b xs e
        split at q3
        · rename_i m em
          obtain ⟨y, us, g1, g2, g3, _⟩ := ok3.rp'.own i _ _ e
          rw [e1] at g1; cases g1
          obtain ⟨p4, n4⟩ := ok3.rp'.setOwn (ys := xs.set m d) e e1 (DVs.set (n3.dv d2) m g3)
          exact ⟨x, us, j, m, rfl, rfl, g2, by rw [g3.length]; exact em, q _ _ _ (((n1.trans n2).trans n3).trans n4) ((n2.trans n3).trans n4).nr p4 q3⟩
        · exact q3.elim
      · exact q3.elim
    · exact q3.elim
  | .tup ts, F, v, r, σ, ρ, H, k, n1, f1, ok, xc, h, q => by
    simp only [asn] at h
    split at h
    · rename_i ds
      have dv : DV c.K H (Bad F σ ρ) v (.tuple ds) := ok.r1'
      cases dv with
      | tup h1 h2 =>
        simp only [gTa]
        refine ⟨_, _, rfl, h1.sq, by rw [h2.length]; exact h.1, ?_⟩
        exact asns_ok ts (as := []) n1 (by rw [FL_nil]; exact ok.rp') (by rw [FL_nil]; exact h2.hs) (fun r hr i e => by subst e; simp at hr) (fun _ z => absurd z (by simp)) xc h.2 fun σ' H' ρ' n2 n3 p k2 => q _ _ _ n2 ⟨fun a o e no _ => n3.keep a o e no (by simp), fun a z => (n3.sub a z).imp id fun y => y.imp id fun w => absurd w (by simp), n3.there⟩ p k2
    · exact h.elim
theorem asns_ok {Q : St → Hp → Prop} : ∀ (ts : List Ta) {F : Addr → Prop} {vs : List V} {rs : List Rs} {as : List Addr} {σ : St} {ρ : Rho} {H : Hp} {k : Rho → Prop}, Nx σ0 ρ0 H0 σ ρ H → Rp c.K c.IO (FL F as) H σ ρ → Hs c.K H (Bad (FL F as) σ ρ) σ vs rs as → (∀ r ∈ rs, ∀ i, r ≠ .ref i) →
    (∀ a ∈ as, ¬ F a ∧ H0 a = none) → XC c F E σ0 ρ0 H0 → asns Γ ts rs E ρ k →
    (∀ σ' H' ρ', Nx σ0 ρ0 H0 σ' ρ' H' → Nr (· ∈ as) σ ρ H σ' ρ' H' → Rp c.K c.IO F H' σ' ρ' → k ρ' → Q σ' H') → gTas c Γ ts vs σ H Q
  | [], F, vs, rs, as, σ, ρ, H, k, n1, p, hs, nr, f1, xc, h, q => by
    simp only [asns] at h
    cases hs with
    | nil =>
      rw [FL_nil] at p
      simp only [gTas]
      exact ⟨rfl, q _ _ _ n1 Nx.refl.nr p h⟩
    | val _ _ _ => exact h.elim
    | own _ _ _ _ => exact h.elim
  | t :: ts, F, vs, rs, as, σ, ρ, H, k, n1, p, hs, nr, f1, xc, h, q => by
    simp only [asns] at h
    simp only [gTas]
    have tail : ∀ {as' : List Addr} {vs' : List V} {rs' : List Rs} {v0 : V} {r0 : Rs} {σ2 : St} {H2 : Hp} {ρ2 : Rho}, FF (FL F as') v0 r0 = FL F as → (∀ a, fr v0 r0 a → a ∈ as) → (∀ a ∈ as', a ∈ as) → (∀ a ∈ as', ¬ fr v0 r0 a) → (∀ r ∈ rs', ∀ i, r ≠ .ref i) →
        Hs c.K H (Bad (FL F as) σ ρ) σ vs' rs' as' → Nx σ0 ρ0 H0 σ2 ρ2 H2 → Nr (fr v0 r0) σ ρ H σ2 ρ2 H2 → Rp c.K c.IO (FL F as') H2 σ2 ρ2 → asns Γ ts rs' E ρ2 k → gTas c Γ ts vs' σ2 H2 Q := fun {as' vs' rs' v0 r0 σ2 H2 ρ2} hF h1 h2 h3 nr' ht n2 n3 p2 k2 => by
      have km : ∀ a o, H a = some o → ¬ Bad (FL F as) σ ρ a → H2 a = some o ∧ ¬ Bad (FL F as') σ2 ρ2 a := fun a o e nb => by
        refine ⟨n3.keep a o e (fun z => nb (.inr z)) fun z => nb (.inl (.inr (h1 a z))), fun z => ?_⟩
        rcases z with z | z
        · exact nb (.inl (by rw [← hF]; exact .inl z))
        · rcases n3.sub a z with y | y | y
          · exact nb (.inr y)
          · rw [e] at y; cases y
          · exact nb (.inl (.inr (h1 a y)))
      have ht2 : Hs c.K H2 (Bad (FL F as') σ2 ρ2) σ2 vs' rs' as' := by
        have gen : ∀ {vs' rs' bs}, Hs c.K H (Bad (FL F as) σ ρ) σ vs' rs' bs → (∀ a ∈ bs, a ∈ as') → (∀ r ∈ rs', ∀ i, r ≠ .ref i) → Hs c.K H2 (Bad (FL F as') σ2 ρ2) σ2 vs' rs' bs := fun hh => by
          induction hh with
          | nil => intro _ _; exact .nil
          | @val v1 r1 vs1 rs1 as1 a1 a2 _ ih =>
            intro b1 b2
            refine .val ?_ a2 (ih b1 fun r hr => b2 r (List.mem_cons_of_mem _ hr))
            cases r1 with
            | dat d => exact DV.mono km _ _ a1
            | own xs => exact (a2 xs rfl).elim
            | ref i => exact (b2 _ List.mem_cons_self i rfl).elim
          | @own x1 ws1 xs1 vs1 rs1 as1 a1 a2 a3 _ ih =>
            intro b1 b2
            refine .own (n3.keep _ _ a1 (fun z => p.own_ne z (.inr (h2 _ (b1 _ List.mem_cons_self)))) (h3 _ (b1 _ List.mem_cons_self))) (a2.mono km) a3 (ih (fun a ha => b1 a (List.mem_cons_of_mem _ ha)) fun r hr => b2 r (List.mem_cons_of_mem _ hr))
        exact gen ht (fun _ z => z) nr'
      refine asns_ok ts n2 p2 ht2 nr' (fun a ha => f1 a (h2 a ha)) xc k2 fun σ3 H3 ρ3 n4 n5 p3 k3 => q _ _ _ n4 ⟨fun a o e no np => n5.keep a o (n3.keep a o e no fun z => np (h1 a z)) (fun z => ?_) fun z => np (h2 a z), fun a z => ?_, fun a o e => ?_⟩ p3 k3
      · rcases n3.sub a z with y | y | y
        · exact no y
        · rw [e] at y; cases y
        · exact np (h1 a y)
      · rcases n5.sub a z with y | y | y
        · exact (n3.sub a y).imp id fun w => w.imp id (h1 a)
        · refine .inr (.inl ?_)
          cases e : H a with
          | none => rfl
          | some o => obtain ⟨o', e'⟩ := n3.there a o e; rw [y] at e'; cases e'
        · exact .inr (.inr (h2 a y))
      · obtain ⟨o', e'⟩ := n3.there a o e
        exact n5.there a o' e'
    cases hs with
    | nil => exact h.elim
    | @val v0 r0 vs' rs' _ r1 hn ht' =>
      refine ⟨v0, vs', rfl, ?_⟩
      have ok : RsOk c.K c.IO (FL F as) H σ ρ v0 r0 := r1.rsok p hn
      have nof : ∀ a, ¬ fr v0 r0 a := fun a z => by
        cases r0 with
        | own xs => exact (hn xs rfl).elim
        | dat d => exact z.elim
        | ref i => exact z.elim
      have hF : FF (FL F as) v0 r0 = FL F as := by
        cases r0 with
        | own xs => exact (hn xs rfl).elim
        | dat d => exact FF_dat
        | ref i => exact FF_ref
      exact asn_one t n1 (fun a z => (nof a z).elim) ok (xc.more sub_FL) h fun σ2 H2 ρ2 n2 n3 p2 h2 =>
        tail hF (fun a z => (nof a z).elim) (fun a z => z) (fun a _ => nof a) (fun r hr => nr r (List.mem_cons_of_mem _ hr)) ht' n2 n3 p2 h2
    | @own x us xs vs' rs' as' e2 e3 hx ht' =>
      refine ⟨.ref x, vs', rfl, ?_⟩
      have hF : FF (FL F as') (.ref x) (.own xs) = FL F (x :: as') := by
        funext b
        apply propext
        constructor
        · rintro ((z | z) | z)
          · exact .inl z
          · exact .inr (List.mem_cons_of_mem _ z)
          · cases z; exact .inr List.mem_cons_self
        · rintro (z | z)
          · exact .inl (.inl z)
          · rcases List.mem_cons.mp z with rfl | z
            · exact .inr rfl
            · exact .inl (.inr z)
      have ok : RsOk c.K c.IO (FL F as') H σ ρ (.ref x) (.own xs) := ⟨by rw [hF]; exact p, ⟨x, us, rfl, e2, by rw [hF]; exact e3⟩, fun a z y => by
        cases z
        rcases y with y | y
        · exact (f1 _ List.mem_cons_self).1 y
        · exact hx y⟩
      exact asn_one t n1 (fun a z => by cases z; exact (f1 _ List.mem_cons_self).2) ok (xc.more sub_FL) h fun σ2 H2 ρ2 n2 n3 p2 h2 =>
        tail hF (fun a z => by cases z; exact List.mem_cons_self) (fun a z => List.mem_cons_of_mem _ z) (fun a ha z => by cases z; exact hx ha) (fun r hr => nr r (List.mem_cons_of_mem _ hr)) ht' n2 n3 p2 h2
end
end
end DL
/-! DL17: assignments and methods as statements and expressions. -/
namespace DL
open PySem PySem.Spec PyProof.Rows L2
section
variable {X : Cx} {c : Cf} {K : PySem.W.Frag} {IO : Nat → Option Addr} {F G : Addr → Prop} {bad : Addr → Prop} {H0 H H1 H2 H' : Hp} {σ0 σ σ1 : St} {ρ0 ρ ρ1 ρ2 : Rho} {v : V} {r : Rs} {E : Xn → Prop} {Γ : Gam}
  {e a b tg : Expr} {es : List Expr} {pos : Pos} {w wa wb wc : DTE} {wr : DTR} {n : Nat} {st : Stmt} {sts : List Stmt} {ws wss : DTS} {i : Nat}
theorem s_asg {t : Ta} (he : PE X e (tD c w)) (hg : PG X tg (gTa c Γ t)) (hs : swapsWithSole [tg] e pos.line X.env = pure false) (hw : swappedStores [tg] e X.env = pure none) (h1 : (assignEach [tg] X.env).map (·.2) = [assign tg X.env]) :
    PS X (.Assign [tg] e pos) (tDS c fun E d ρ => w E ρ fun r ρ1 => asn Γ t r E ρ1 d.nx) :=
  (ps_asg he hg hs hw h1).imp fun D σ H ⟨F, ρ, E, d, rp, hw, xc, k1, _, _, _⟩ => ⟨F, ρ, E, _, rp, hw, xc, fun v H1 ρ1 r n1 ok1 f1 q1 =>
    asn_one t n1 f1 ok1 xc q1 fun σ' H' ρ' n2 _ p2 q2 => k1 _ _ _ n2 p2 q2⟩
theorem s_name {st' : Stmt} (h : PS X st' (tAsg (tD c w) (gName i))) : PS X st' (tDS c fun E d ρ => w E ρ fun r ρ1 => asn Γ (.name i) r E ρ1 d.nx) :=
  h.imp fun D σ H ⟨F, ρ, E, d, rp, hw, xc, k1, _, _, _⟩ => ⟨F, ρ, E, _, rp, hw, xc, fun v H1 ρ1 r n1 ok1 f1 q1 => by
    have := asn_one (c := c) (Γ := Γ) (.name i) n1 f1 ok1 xc q1 (Q := D.nx) fun σ' H' ρ' n2 _ p2 q2 => k1 _ _ _ n2 p2 q2
    simp only [gTa] at this
    exact this⟩
theorem _root_.DL.Hs.nx {vs : List V} {rs : List Rs} {as : List Addr} (h : Hs K H (Bad F σ ρ) σ vs rs as) (n : Nx σ ρ H σ ρ1 H1) (ho : ∀ a ∈ as, ¬ Own σ ρ a) : Hs K H1 (Bad F σ ρ1) σ vs rs as := by
  have gen : ∀ {vs rs bs}, Hs K H (Bad F σ ρ) σ vs rs bs → (∀ a ∈ bs, a ∈ as) → Hs K H1 (Bad F σ ρ1) σ vs rs bs := fun h => by
    induction h with
    | nil => intro _; exact .nil
    | val a1 a2 _ ih => intro b; exact .val (a1.nx a2 n) a2 (ih b)
    | own a1 a2 a3 _ ih => intro b; exact .own (n.keep _ _ a1 (ho _ (b _ List.mem_cons_self))) (n.dvs a2) a3 (ih fun a q => b a (List.mem_cons_of_mem _ q))
  exact gen h fun _ q => q
theorem settle_ok : ∀ (rs : List Rs) {vs : List V} {as : List Addr} {ρ : Rho} {k : List Rs → Rho → Prop}, Rp K IO F H σ ρ → (∀ a ∈ as, F a) → Hs K H (Bad F σ ρ) σ vs rs as → settle rs ρ k →
    ∃ rs' ρ', k rs' ρ' ∧ Rp K IO F H σ ρ' ∧ Hs K H (Bad F σ ρ') σ vs rs' as ∧ Nx σ ρ H σ ρ' H ∧ ∀ r ∈ rs', ∀ i, r ≠ .ref i
  | [], vs, as, ρ, k, p, hF, h, q => by
    simp only [settle] at q
    exact ⟨[], ρ, q, p, h, Nx.refl, fun _ z => absurd z (by simp)⟩
  | .dat d :: rs, vs, as, ρ, k, p, hF, h, q => by
    simp only [settle] at q
    cases h with
    | val a1 a2 a3 =>
      obtain ⟨rs', ρ', q2, p2, h2, n2, nr⟩ := settle_ok rs p hF a3 q
      exact ⟨_, ρ', q2, p2, .val (a1.nx a2 n2) (by simp) h2, n2, fun r hr i => by rcases List.mem_cons.mp hr with rfl | hr; simp; exact nr r hr i⟩
  | .own xs :: rs, vs, as, ρ, k, p, hF, h, q => by
    simp only [settle] at q
    cases h with
    | val a1 a2 a3 => exact (a2 xs rfl).elim
    | own a1 a2 a3 a4 =>
      obtain ⟨rs', ρ', q2, p2, h2, n2, nr⟩ := settle_ok rs p (fun a z => hF a (List.mem_cons_of_mem _ z)) a4 q
      exact ⟨_, ρ', q2, p2, .own a1 (n2.dvs a2) a3 h2, n2, fun r hr i => by rcases List.mem_cons.mp hr with rfl | hr; simp; exact nr r hr i⟩
  | .ref j :: rs, vs, as, ρ, k, p, hF, h, q => by
    simp only [settle] at q
    cases h with
    | val a1 a2 a3 =>
      obtain ⟨d, ρ1, q1, p1, d1, n1⟩ := esc_ok (a1.rsok p a2) q
      obtain ⟨rs', ρ', q2, p2, h2, n2, nr⟩ := settle_ok rs p1 hF (a3.nx n1 fun a z y => p.own_ne y (hF a z)) q1
      exact ⟨_, ρ', q2, p2, .val (show R1 K H _ σ _ (.dat d) from n2.dv d1) (by simp) h2, n1.trans n2, fun r hr i => by rcases List.mem_cons.mp hr with rfl | hr; simp; exact nr r hr i⟩
/-- several at once: what is to be shown of the values -/
theorem par_core {ts : List Ta} {D : Ends} (h : tDS c (fun E d ρ => wr E ρ fun rs ρ1 => settle rs ρ1 fun rs' ρ2 => asns Γ ts rs' E ρ2 d.nx) D σ H) :
    tDH c n wr σ H (fun vs H1 => gTas c Γ ts vs σ H1 D.nx) := by
  obtain ⟨F, ρ, E, d, rp, hw, xc, k1, _, _, _⟩ := h
  refine ⟨F, ρ, E, _, rp, hw, xc, fun vs H1 ρ1 rs as hl n1 p1 h1 f1 q1 => ?_⟩
  obtain ⟨rs', ρ2, q2, p2, h2, n2, nr⟩ := settle_ok rs p1 (fun a z => .inr z) h1 q1
  exact asns_ok ts (n1.trans n2) p2 h2 nr f1 xc q2 fun σ' H' ρ' n3 _ p3 q3 => k1 _ _ _ n3 p3 q3
theorem par_tup {ts : List Ta} {D : Ends} (h : tDS c (fun E d ρ => wr E ρ fun rs ρ1 => settle rs ρ1 fun rs' ρ2 => asns Γ ts rs' E ρ2 d.nx) D σ H) (hn : n ≤ 1000) :
    tDH c n wr σ H (fun vs H1 => vs.length ≤ sizeLine ∧ ∀ p, H1 p = none → gTup c.K n (gTas c Γ ts) (.ref p) σ (upd H1 p (.tup vs)) D.nx) := by
  obtain ⟨F, ρ, E, d, rp, hw, xc, k1, _, _, _⟩ := h
  refine ⟨F, ρ, E, _, rp, hw, xc, fun vs H1 ρ1 rs as hl n1 p1 h1 f1 q1 => ⟨small_line (by omega), fun p hp => ⟨p, vs, rfl, .inl (.inl upd_same), hl, ?_⟩⟩⟩
  obtain ⟨p1', ne⟩ := p1.ext (up_new (o := .tup vs) hp)
  have h1' := h1.nx ne fun a z y => p1.own_ne y (.inr z)
  obtain ⟨rs', ρ2, q2, p2, h2, n2, nr⟩ := settle_ok rs p1' (fun a z => .inr z) h1' q1
  exact asns_ok ts ((n1.trans ne).trans n2) p2 h2 nr f1 xc q2 fun σ' H' ρ' n3 _ p3 q3 => k1 _ _ _ n3 p3 q3
theorem s_par2 {j : Nat} {x y : Str} {px py pt : Pos} {kt k2 pt2} (hc : X.calm = true) (hN : X.N.Nodup) (hi : X.N[i]? = some x) (hj : X.N[j]? = some y) (hij : i ≠ j)
    (hx : X.env.scope.names.lookup x = some .local) (hy : X.env.scope.names.lookup y = some .local) (ha : PA X [a, b] (tDH c 2 wr))
    (hw : swappedStores [.Tuple [.Name x px, .Name y py] kt pt] (.Tuple [a, b] k2 pt2) X.env = pure (some [x, y])) :
    PS X (.Assign [.Tuple [.Name x px, .Name y py] kt pt] (.Tuple [a, b] k2 pt2) pos) (tDS c fun E d ρ => wr E ρ fun rs ρ1 => settle rs ρ1 fun rs' ρ2 => asns Γ [.name i, .name j] rs' E ρ2 d.nx) :=
  (ps_par hc hN hi hj hij hx hy ha hw rfl).imp fun D σ H h => by
    obtain ⟨F, ρ, E, Qd, h1, h2, h3, h4⟩ := par_core (n := 2) h
    refine ⟨F, ρ, E, Qd, h1, h2, h3, fun vs H1 ρ1 rs as hl n1 p1 hs f1 q1 => ?_⟩
    have := h4 vs H1 ρ1 rs as hl n1 p1 hs f1 q1
    simp only [gTas, gTa] at this
    obtain ⟨v1, r1, rfl, v2, r2, rfl, rfl, q⟩ := this
    exact ⟨v1, v2, rfl, q⟩
theorem s_par3 {j l : Nat} {x y z : Str} {q : Expr} {px py pz pt : Pos} {kt k2 pt2} (hc : X.calm = true) (hN : X.N.Nodup) (hi : X.N[i]? = some x) (hj : X.N[j]? = some y) (hl : X.N[l]? = some z) (hij : i ≠ j) (hil : i ≠ l) (hjl : j ≠ l)
    (hx : X.env.scope.names.lookup x = some .local) (hy : X.env.scope.names.lookup y = some .local) (hz : X.env.scope.names.lookup z = some .local) (ha : PA X [a, b, q] (tDH c 3 wr))
    (hw : swappedStores [.Tuple [.Name x px, .Name y py, .Name z pz] kt pt] (.Tuple [a, b, q] k2 pt2) X.env = pure (some [x, y, z])) :
    PS X (.Assign [.Tuple [.Name x px, .Name y py, .Name z pz] kt pt] (.Tuple [a, b, q] k2 pt2) pos) (tDS c fun E d ρ => wr E ρ fun rs ρ1 => settle rs ρ1 fun rs' ρ2 => asns Γ [.name i, .name j, .name l] rs' E ρ2 d.nx) :=
  (ps_par3 hc hN hi hj hl hij hil hjl hx hy hz ha hw rfl).imp fun D σ H h => by
    obtain ⟨F, ρ, E, Qd, h1, h2, h3, h4⟩ := par_core (n := 3) h
    refine ⟨F, ρ, E, Qd, h1, h2, h3, fun vs H1 ρ1 rs as hl n1 p1 hs f1 q1 => ?_⟩
    have := h4 vs H1 ρ1 rs as hl n1 p1 hs f1 q1
    simp only [gTas, gTa] at this
    obtain ⟨v1, r1, rfl, v2, r2, rfl, v3, r3, rfl, rfl, q⟩ := this
    exact ⟨v1, v2, v3, rfl, q⟩
theorem s_parT {ts : List Ta} {tgs : List Expr} {kt k2 : Nat} {pt pt2 : Pos} (hc : X.calm = true) (hn : n ≤ 1000) (ha : PA X es (tDH c n wr)) (hg : PGs X tgs (gTas c Γ ts)) (hl : (assignEach tgs X.env).length = n) (hst : (assignEach tgs X.env).findIdx? (·.1) = none)
    (hw : swappedStores [.Tuple tgs kt pt] (.Tuple es k2 pt2) X.env = pure none) (hs : swapsWithSole [.Tuple tgs kt pt] (.Tuple es k2 pt2) pos.line X.env = pure false) (h1 : (assignEach [.Tuple tgs kt pt] X.env).map (·.2) = [assign (.Tuple tgs kt pt) X.env]) (hK : X.K = c.K) :
    PS X (.Assign [.Tuple tgs kt pt] (.Tuple es k2 pt2) pos) (tDS c fun E d ρ => wr E ρ fun rs ρ1 => settle rs ρ1 fun rs' ρ2 => asns Γ ts rs' E ρ2 d.nx) :=
  (ps_asg (pe_tup ha) (pg_tup hc hg hl hst) hs hw h1).imp fun D σ H h => by
    have := par_tup (n := n) h hn
    rw [← hK] at this
    exact this
theorem s_aug_add {x : Str} {pos' : Pos} (hN : X.N.Nodup) (hi : X.N[i]? = some x) (hx : Loc X.env.scope x) (he : PE X e (tD c w)) (hf : X.fn x = true ∨ X.env.scope.names.lookup x = some .local) :
    PS X (.AugAssign (.Name x pos') .Add e pos) (tDS c fun E d ρ => match gt ρ i with
    | some (.dat (.int a)) => w E ρ fun r ρ1 => match r, O2.add with
      | .dat (.int b), .add => d.nx (ρ1.set i (some (.dat (.int (a + b)))))
      | .dat (.int b), .sub => d.nx (ρ1.set i (some (.dat (.int (a - b)))))
      | _, _ => False
    | _ => False) :=
  (ps_aug hN hi hx he ip_add hf).imp fun D σ H ⟨F, ρ, E, d, rp, hw, xc, k1, _, _, _⟩ => by
    dsimp only at hw
    split at hw
    · rename_i a ea
      obtain ⟨v, e1, e2⟩ := rp.dat i _ ea
      cases e2
      refine ⟨_, e1, F, ρ, E, _, rp, hw, xc, fun v H1 ρ1 r n1 ok1 f1 q1 => ?_⟩
      cases r with
      | dat dd =>
        cases dd <;> first | exact q1.elim | skip
        obtain rfl := (DR.dv ok1.r1').int
        obtain ⟨p2, n2⟩ := ok1.rp'.put (i := i) (v := .int (a + _)) (.int _)
        exact ⟨_, _, rfl, rfl, k1 _ _ _ (n1.trans n2) p2 q1⟩
      | own xs => exact q1.elim
      | ref j => exact q1.elim
    · exact hw.elim
theorem s_aug_sub {x : Str} {pos' : Pos} (hN : X.N.Nodup) (hi : X.N[i]? = some x) (hx : Loc X.env.scope x) (he : PE X e (tD c w)) (hf : X.fn x = true ∨ X.env.scope.names.lookup x = some .local) :
    PS X (.AugAssign (.Name x pos') .Sub e pos) (tDS c fun E d ρ => match gt ρ i with
    | some (.dat (.int a)) => w E ρ fun r ρ1 => match r, O2.sub with
      | .dat (.int b), .add => d.nx (ρ1.set i (some (.dat (.int (a + b)))))
      | .dat (.int b), .sub => d.nx (ρ1.set i (some (.dat (.int (a - b)))))
      | _, _ => False
    | _ => False) :=
  (ps_aug hN hi hx he ip_sub hf).imp fun D σ H ⟨F, ρ, E, d, rp, hw, xc, k1, _, _, _⟩ => by
    dsimp only at hw
    split at hw
    · rename_i a ea
      obtain ⟨v, e1, e2⟩ := rp.dat i _ ea
      cases e2
      refine ⟨_, e1, F, ρ, E, _, rp, hw, xc, fun v H1 ρ1 r n1 ok1 f1 q1 => ?_⟩
      cases r with
      | dat dd =>
        cases dd <;> first | exact q1.elim | skip
        obtain rfl := (DR.dv ok1.r1').int
        obtain ⟨p2, n2⟩ := ok1.rp'.put (i := i) (v := .int (a - _)) (.int _)
        exact ⟨_, _, rfl, rfl, k1 _ _ _ (n1.trans n2) p2 q1⟩
      | own xs => exact q1.elim
      | ref j => exact q1.elim
    · exact hw.elim
/-! ### x.append(e), x.extend(e), x.insert(a, b) -/
theorem s_app {st' : Stmt} (h : PS X st' (tDrop (tBM X.K "list" rAppend (tVar i) (tCons (tD c w) tNil)))) : PS X st' (tDS c fun E d ρ => isOwn ρ i ∧ w E ρ fun r ρ1 => esc r ρ1 fun x ρ2 => match gt ρ2 i with
    | some (.own b xs) => xs.length < sizeLine ∧ d.nx (ρ2.set i (some (.own b (xs ++ [x]))))
    | _ => False) :=
  h.imp fun D σ H ⟨F, ρ, E, d, rp, ⟨io, hw⟩, xc, k1, _, _, _⟩ => by
    obtain ⟨b0, xs0, x, us0, e0, e1, e2, e3⟩ := own_at rp io
    refine ⟨.ref x, e1, .inl ⟨rfl, us0, .inl (.inl e2)⟩, F, ρ, E, _, rp, hw, xc, fun v H1 ρ1 r n1 ok1 f1 q1 => ?_⟩
    obtain ⟨dx, ρ2, q2, p2, d2, n2⟩ := esc_ok ok1 q1
    split at q2
    · rename_i b xs e
      obtain ⟨y, us, g1, g2, g3, _⟩ := p2.own i _ _ e
      rw [e1] at g1; cases g1
      obtain ⟨p3, n3⟩ := p2.setOwn e e1 (g3.append (.cons d2 .nil))
      exact ⟨x, us, v, rfl, rfl, g2, by rw [g3.length]; exact q2.1, k1 _ _ _ ((n1.trans n2).trans n3) p3 q2.2⟩
    · exact q2.elim
theorem s_ext {st' : Stmt} (h : PS X st' (tDrop (tBM X.K "list" rExtend (tVar i) (tCons (tD c w) tNil)))) : PS X st' (tDS c fun E d ρ => isOwn ρ i ∧ w E ρ fun r ρ1 => match r with
    | .own ys => match gt ρ1 i with
      | some (.own b xs) => LenOk (xs.length + ys.length) ∧ d.nx (ρ1.set i (some (.own b (xs ++ ys))))
      | _ => False
    | _ => False) :=
  h.imp fun D σ H ⟨F, ρ, E, d, rp, ⟨io, hw⟩, xc, k1, _, _, _⟩ => by
    obtain ⟨b0, xs0, x, us0, e0, e1, e2, e3⟩ := own_at rp io
    refine ⟨.ref x, e1, .inl ⟨rfl, us0, .inl (.inl e2)⟩, F, ρ, E, _, rp, hw, xc, fun v H1 ρ1 r n1 ok1 f1 q1 => ?_⟩
    split at q1
    · rename_i ys
      split at q1
      · rename_i b xs e
        obtain ⟨z, zs, rfl, z2, z3⟩ := ok1.r1
        obtain ⟨y, us, g1, g2, g3, _⟩ := ok1.rp'.own i _ _ e
        rw [e1] at g1; cases g1
        obtain ⟨p3, n3⟩ := ok1.rp'.setOwn e e1 (g3.append (z3.less fun a q => .inl q))
        exact ⟨x, z, us, zs, rfl, rfl, g2, z2, by rw [g3.length, z3.length]; exact q1.1, k1 _ _ _ (n1.trans n3) p3 q1.2⟩
      · exact q1.elim
    · exact q1.elim
theorem s_ins {st' : Stmt} (h : PS X st' (tDrop (tBM X.K "list" (fun x vs H Q => ∃ (l : Addr) (xs : List V) (i : Int) (y : V), x = .ref l ∧ vs = [.int i, y] ∧ H l = some (.lst xs) ∧ xs.length < sizeLine ∧ 0 ≤ i ∧ i < 2 ^ 63 ∧
    Q .non (upd H l (.lst (xs.take i.toNat ++ [y] ++ xs.drop i.toNat)))) (tVar i) (tCons (tD c wa) (tCons (tD c wb) tNil))))) : PS X st' (tDS c fun E d ρ => isOwn ρ i ∧ wa E ρ fun q ρ1 => wb E ρ1 fun r ρ2 => esc r ρ2 fun x ρ3 => match q with
    | .dat (.int j) => match gt ρ3 i with
      | some (.own io xs) => (0 ≤ j ∧ j ≤ xs.length ∧ xs.length < 1000) ∧ d.nx (ρ3.set i (some (.own io (xs.take j.toNat ++ x :: xs.drop j.toNat))))
      | _ => False
    | _ => False) :=
  h.imp fun D σ H ⟨F, ρ, E, d, rp, ⟨io, hw⟩, xc, k1, _, _, _⟩ => by
    obtain ⟨b0, xs0, x, us0, e0, e1, e2, e3⟩ := own_at rp io
    refine ⟨.ref x, e1, .inl ⟨rfl, us0, .inl (.inl e2)⟩, F, ρ, E, _, rp, hw, xc, fun v H1 ρ1 q n1 ok1 f1 q1 => ?_⟩
    refine ⟨F, ρ1, E, _, ok1.rp', q1, xc.nx n1, fun u H2 ρ2 r n2 ok2 f2 q2 => ?_⟩
    obtain ⟨dx, ρ3, q3, p3, d3, n3⟩ := esc_ok ok2 q2
    split at q3
    · rename_i j
      obtain rfl := (DR.dv ok1.r1').int
      split at q3
      · rename_i b xs e
        obtain ⟨y, us, g1, g2, g3, _⟩ := p3.own i _ _ e
        rw [e1] at g1; cases g1
        have dv : DVs c.K H2 (Bad F σ ρ3) (us.take j.toNat ++ [u] ++ us.drop j.toNat) (xs.take j.toNat ++ dx :: xs.drop j.toNat) := by
          rw [List.append_assoc]
          exact (g3.take _).append (.cons d3 (g3.drop _))
        obtain ⟨p4, n4⟩ := p3.setOwn e e1 dv
        have hz := q3.1
        exact ⟨x, us, j, u, rfl, rfl, g2, by rw [g3.length, sizeLine_eq]; omega, hz.1, by omega, k1 _ _ _ (((n1.trans n2).trans n3).trans n4) p4 q3.2⟩
      · exact q3.elim
    · exact q3.elim
/-! ### x.pop(e), a.index(b) -/
theorem d_pop (hw : DTE) {e' : Expr} (h : PE X e' (tBM X.K "list" rPopAt (tVar i) (tCons (tD c hw) tNil))) : PE X e' (tD c fun E ρ Q => (match gt ρ i with
    | some (.own _ _) => True
    | _ => False) ∧ optI (some (.of hw)) E ρ fun j ρ1 => match gt ρ1 i with
    | some (.own b xs) => match ixN xs.length (j.getD (-1)) with
      | some n => match xs[n]? with
        | some x => xs.length ≤ 1000 ∧ Q (.dat x) (ρ1.set i (some (.own b (xs.eraseIdx n))))
        | none => False
      | none => False
    | _ => False) :=
  h.imp fun σ H Q ⟨F, ρ, E, Qd, rp, ⟨io, hw⟩, xc, kk⟩ => by
    obtain ⟨b0, xs0, x, us0, e0, e1, e2, e3⟩ := own_at rp io
    refine ⟨.ref x, e1, .inl ⟨rfl, us0, .inl (.inl e2)⟩, F, ρ, E, _, rp, hw, xc, fun v H1 ρ1 q n1 ok1 f1 q1 => ?_⟩
    split at q1
    · rename_i j
      obtain rfl := (DR.dv ok1.r1').int
      split at q1
      · rename_i b xs e
        obtain ⟨y, us, g1, g2, g3, _⟩ := ok1.rp'.own i _ _ e
        rw [e1] at g1; cases g1
        split at q1
        · rename_i m em
          split at q1
          · rename_i z ez
            obtain ⟨vz, z1, z2⟩ := g3.get ez
            have er : ∀ {zs : List D} {ws : List V} (m : Nat), DVs c.K H1 (Bad F σ ρ1) ws zs → DVs c.K H1 (Bad F σ ρ1) (ws.eraseIdx m) (zs.eraseIdx m) := fun {zs} => by
              induction zs with
              | nil => intro ws m h; cases h; exact .nil
              | cons d ds ih =>
                intro ws m h
                cases h with
                | cons a r =>
                  cases m with
                  | zero => exact r
                  | succ m => exact .cons a (ih m r)
            obtain ⟨p3, n3⟩ := ok1.rp'.setOwn e e1 (er m g3)
            obtain ⟨s1, s2, s3, s4⟩ := ixN_seq em
            have hlen : us.length ≤ 2 ^ 62 := by have := q1.1; rw [g3.length]; omega
            exact ⟨x, us, j, m, vz, rfl, rfl, g2, by have := g3.length; simp at s3 s4; omega, by have := g3.length; simp at s4; omega, by rw [g3.length]; exact s1, z1, kk _ _ _ _ (n1.trans n3) (.ofDat p3 (n3.dv z2)) (fun _ q => q.elim) q1.2⟩
          · exact q1.elim
        · exact q1.elim
      · exact q1.elim
    · exact q1.elim
end
end DL
/-! DL18: a def by its body. -/
namespace DL
open PySem PySem.Spec PyProof.Rows L2
/-- what the lists of the caller hold at the end -/
def outs : List Sl → Rho → Option (List (List D))
  | [], _ => some []
  | .dat _ :: sl, _ :: ρ => outs sl ρ
  | .own true _ :: sl, some (.own true ys) :: ρ => (outs sl ρ).map (ys :: ·)
  | _, _ => none
def fin (sl : List Sl) (Q : Rs → List (List D) → Prop) (r : Rs) (ρ : Rho) : Prop := match outs sl ρ with
  | some o => match r with
    | .dat d => Q (.dat d) o
    | .own xs => Q (.own xs) o
    | .ref i => match gt ρ i with
      | some (.dat d) => Q (.dat d) o
      | some (.own false xs) => Q (.own xs) o
      | _ => False
  | none => False
def wpF (Γ : Gam) (n m : Nat) (body : List Sm) : DSp := fun sl Q E => sl.length = n ∧
  wpSs Γ body E ⟨fin sl Q (.dat .none), fin sl Q, fun _ => False, fun _ => False⟩ (sl.map some ++ List.replicate (m - n) none)
theorem gt_app : ∀ (a b : Rho) (i : Nat), gt (a ++ b) i = if i < a.length then gt a i else gt b (i - a.length)
  | [], b, i => by simp
  | x :: a, b, 0 => by simp [gt]
  | x :: a, b, i + 1 => by simp [gt, gt_app a b i]
theorem gt_rep : ∀ (k i : Nat), gt (List.replicate k none) i = none
  | 0, _ => rfl
  | k + 1, 0 => rfl
  | k + 1, i + 1 => by simpa [List.replicate_succ, gt] using gt_rep k i
theorem gt_some : ∀ (sl : List Sl) (i : Nat), gt (sl.map some) i = sl[i]?
  | [], _ => by simp [gt]
  | s :: sl, 0 => by simp [gt]
  | s :: sl, i + 1 => by simpa [gt] using gt_some sl i
theorem get_start {N : List Str} {vs : List V} {i : Nat} {v : V} (h : (L2.start N vs)[i]? = some (some v)) : vs[i]? = some v := by
  unfold L2.start at h
  by_cases hi : i < vs.length
  · rw [List.getElem?_append_left (by simpa using hi), List.getElem?_map] at h
    cases e : vs[i]? with
    | none => rw [e] at h; cases h
    | some a => rw [e] at h; cases h; rfl
  · rw [List.getElem?_append_right (by simpa using hi), List.getElem?_replicate] at h
    split at h <;> cases h
/-- the slots at the entry -/
theorem Rp.start {K : PySem.W.Frag} {IO : Nat → Option Addr} {F : Addr → Prop} {H : Hp} {vs : List V} {sl : List Sl} {N : List Str} (p : Rp K IO F H (vs.map some) (sl.map some)) (hl : vs.length ≤ N.length) :
    Rp K IO F H (L2.start N vs) (sl.map some ++ List.replicate (N.length - sl.length) none) ∧ (∀ a, Own (L2.start N vs) (sl.map some ++ List.replicate (N.length - sl.length) none) a → Own (vs.map some) (sl.map some) a) := by
  have len := p.len
  simp only [List.length_map] at len
  have g : ∀ {i s}, gt (sl.map some ++ List.replicate (N.length - sl.length) none) i = some s → gt (sl.map some) i = some s := fun {i s} e => by
    rw [gt_app] at e
    split at e
    · exact e
    · rw [gt_rep] at e; cases e
  have st : ∀ {i} {v : V}, (vs.map some)[i]? = some (some v) → (L2.start N vs)[i]? = some (some v) := fun {i v} e => by
    unfold L2.start
    have hi : i < (vs.map some).length := by
      rcases Nat.lt_or_ge i (vs.map some).length with h | h
      · exact h
      · rw [List.getElem?_eq_none h] at e; cases e
    rw [List.getElem?_append_left hi]; exact e
  have ts : ∀ {i} {v : V}, (L2.start N vs)[i]? = some (some v) → (vs.map some)[i]? = some (some v) := fun {i v} e => by
    rw [List.getElem?_map, get_start e]; rfl
  have ow : ∀ a, Own (L2.start N vs) (sl.map some ++ List.replicate (N.length - sl.length) none) a → Own (vs.map some) (sl.map some) a := fun a ⟨i, io, xs, h1, h2⟩ => ⟨i, io, xs, g h1, ts h2⟩
  have km : ∀ a o, H a = some o → ¬ Bad F (vs.map some) (sl.map some) a → H a = some o ∧ ¬ Bad F (L2.start N vs) (sl.map some ++ List.replicate (N.length - sl.length) none) a := fun a o e nb => ⟨e, fun q => nb (q.imp id (ow a))⟩
  refine ⟨⟨fun i d e => ?_, fun i io xs e => ?_, fun i j io jo xs ys a h1 h2 h3 h4 => p.inj i j io jo xs ys a (g h1) (g h2) (ts h3) (ts h4), p.fdom, ?_⟩, ow⟩
  · obtain ⟨v, h1, h2⟩ := p.dat i d (g e)
    exact ⟨v, st h1, h2.mono km⟩
  · obtain ⟨a, ws, h1, h2, h3, h4, h5⟩ := p.own i io xs (g e)
    exact ⟨a, ws, st h1, h2, h3.mono km, h4, h5⟩
  · unfold L2.start
    simp only [List.length_append, List.length_map, List.length_replicate]
    omega
/-- what outs tells -/
theorem outs_at : ∀ {sl : List Sl} {ρ : Rho} {o : List (List D)}, outs sl ρ = some o → ∀ {i io xs}, (puts sl o)[i]? = some (Sl.own io xs) → io = true ∧ gt ρ i = some (.own true xs) ∧ ∃ zs, sl[i]? = some (.own true zs)
  | [], _, _, _, i, io, xs, e => by simp [puts] at e
  | .dat d :: sl, [], o, h, i, io, xs, e => by simp [outs] at h
  | .dat d :: sl, y :: ρ, o, h, i, io, xs, e => by
    cases i with
    | zero => simp [puts] at e
    | succ i => simpa [gt] using outs_at (sl := sl) (ρ := ρ) h (i := i) (by simpa [puts] using e)
  | .own true zs :: sl, [], o, h, i, io, xs, e => by simp [outs] at h
  | .own true zs :: sl, none :: ρ, o, h, i, io, xs, e => by simp [outs] at h
  | .own true zs :: sl, some (.dat d) :: ρ, o, h, i, io, xs, e => by simp [outs] at h
  | .own true zs :: sl, some (.own false ys) :: ρ, o, h, i, io, xs, e => by simp [outs] at h
  | .own true zs :: sl, some (.own true ys) :: ρ, o, h, i, io, xs, e => by
    simp only [outs, Option.map_eq_some_iff] at h
    obtain ⟨o', h1, rfl⟩ := h
    cases i with
    | zero => simp [puts] at e; obtain ⟨rfl, rfl⟩ := e; simp [gt]
    | succ i => simpa [gt] using outs_at (sl := sl) (ρ := ρ) h1 (i := i) (by simpa [puts] using e)
  | .own false zs :: sl, [], o, h, i, io, xs, e => by simp [outs] at h
  | .own false zs :: sl, y :: ρ, o, h, i, io, xs, e => by simp [outs] at h
theorem outs_io : ∀ {sl : List Sl} {ρ : Rho} {o : List (List D)}, outs sl ρ = some o → ∀ {i io xs}, sl[i]? = some (Sl.own io xs) → io = true ∧ ∃ ys, gt ρ i = some (.own true ys) ∧ (puts sl o)[i]? = some (.own true ys)
  | [], _, _, _, i, io, xs, e => by simp at e
  | .dat d :: sl, [], o, h, i, io, xs, e => by simp [outs] at h
  | .dat d :: sl, y :: ρ, o, h, i, io, xs, e => by
    cases i with
    | zero => simp at e
    | succ i => simpa [gt, puts] using outs_io (sl := sl) (ρ := ρ) h (i := i) (by simpa using e)
  | .own true zs :: sl, [], o, h, i, io, xs, e => by simp [outs] at h
  | .own true zs :: sl, none :: ρ, o, h, i, io, xs, e => by simp [outs] at h
  | .own true zs :: sl, some (.dat d) :: ρ, o, h, i, io, xs, e => by simp [outs] at h
  | .own true zs :: sl, some (.own false ys) :: ρ, o, h, i, io, xs, e => by simp [outs] at h
  | .own true zs :: sl, some (.own true ys) :: ρ, o, h, i, io, xs, e => by
    simp only [outs, Option.map_eq_some_iff] at h
    obtain ⟨o', h1, rfl⟩ := h
    cases i with
    | zero => simp at e; obtain ⟨rfl, rfl⟩ := e; simp [gt, puts]
    | succ i => simpa [gt, puts] using outs_io (sl := sl) (ρ := ρ) h1 (i := i) (by simpa using e)
  | .own false zs :: sl, [], o, h, i, io, xs, e => by simp [outs] at h
  | .own false zs :: sl, y :: ρ, o, h, i, io, xs, e => by simp [outs] at h
theorem puts_dat : ∀ {sl : List Sl} {o : List (List D)} {i : Nat} {d : D}, (puts sl o)[i]? = some (.dat d) ↔ sl[i]? = some (.dat d)
  | [], _, _, _ => by simp [puts]
  | .dat d :: sl, o, 0, _ => by simp [puts]
  | .dat d :: sl, o, i + 1, _ => by simpa [puts] using puts_dat (sl := sl)
  | .own b x :: sl, [], 0, _ => by simp [puts]
  | .own b x :: sl, [], i + 1, _ => by simpa [puts] using puts_dat (sl := sl)
  | .own b x :: sl, y :: o, 0, _ => by simp [puts]
  | .own b x :: sl, y :: o, i + 1, _ => by simpa [puts] using puts_dat (sl := sl)
theorem puts_len : ∀ {sl : List Sl} {o : List (List D)}, (puts sl o).length = sl.length
  | [], _ => by simp [puts]
  | .dat d :: sl, o => by simpa [puts] using puts_len (sl := sl)
  | .own b x :: sl, [] => by simpa [puts] using puts_len (sl := sl)
  | .own b x :: sl, y :: o => by simpa [puts] using puts_len (sl := sl)
section
variable {K : PySem.W.Frag} {F : Addr → Prop} {H H' : Hp} {vs : List V} {sl : List Sl} {N : List Str} {σ' : St} {ρ' : Rho} {o : List (List D)} {v : V} {r : Rs}
theorem io_at {i : Nat} {a : Addr} (h : IOof vs i = some a) : (vs.map some)[i]? = some (some (V.ref a)) := by
  unfold IOof at h
  split at h
  · rename_i b e
    cases h
    rw [List.getElem?_map, e]; rfl
  · cases h
/-- the slots behind the call, more being foreign -/
theorem back (S G : Addr → Prop) (gF : ∀ b, F b → G b) (s4 : ∀ b, S b → Bad G σ' ρ' b) (p0 : Rp K (IOof vs) F H (vs.map some) (sl.map some)) (n : ∀ a o', H a = some o' → ¬ Own (vs.map some) (sl.map some) a → H' a = some o') (th : ∀ a o, H a = some o → ∃ o', H' a = some o') (p : Rp K (IOof vs) G H' σ' ρ') (ho : outs sl ρ' = some o)
    (s1 : ∀ b, S b → H b = none) (s2 : ∀ b, S b → H' b ≠ none) (s3 : ∀ b i xs, S b → gt ρ' i = some (.own true xs) → σ'[i]? ≠ some (some (.ref b))) :
    Nx (vs.map some) (sl.map some) H (vs.map some) ((puts sl o).map some) H' ∧ Rp K (IOof vs) (fun b => F b ∨ S b) H' (vs.map some) ((puts sl o).map some) ∧
    (∀ b, Own (vs.map some) ((puts sl o).map some) b → Own σ' ρ' b ∧ ∃ i xs, gt ρ' i = some (.own true xs) ∧ σ'[i]? = some (some (V.ref b))) := by
  have at' : ∀ {i io xs}, gt ((puts sl o).map some) i = some (.own io xs) → io = true ∧ gt ρ' i = some (.own true xs) ∧ ∃ a ws, σ'[i]? = some (some (V.ref a)) ∧ (vs.map some)[i]? = some (some (V.ref a)) ∧ H' a = some (.lst ws) ∧ DVs K H' (Bad G σ' ρ') ws xs ∧ ¬ G a ∧ IOof vs i = some a ∧ ∃ zs, sl[i]? = some (.own true zs) := fun {i io xs} e => by
    rw [gt_some] at e
    obtain ⟨h1, h2, h3⟩ := outs_at ho e
    obtain ⟨a, ws, g1, g2, g3, g4, g5⟩ := p.own i _ _ h2
    exact ⟨h1, h2, a, ws, g1, io_at (g5 rfl), g2, g3, g4, g5 rfl, h3⟩
  have ow : ∀ b, Own (vs.map some) ((puts sl o).map some) b → Own σ' ρ' b ∧ ∃ i xs, gt ρ' i = some (.own true xs) ∧ σ'[i]? = some (some (V.ref b)) := fun b ⟨i, io, xs, h1, h2⟩ => by
    obtain ⟨rfl, g1, a, ws, g2, g3, _⟩ := at' h1
    rw [h2] at g3; cases g3
    exact ⟨⟨i, true, xs, g1, g2⟩, i, xs, g1, g2⟩
  have nx : Nx (vs.map some) (sl.map some) H (vs.map some) ((puts sl o).map some) H' := ⟨n, fun a ⟨i, io, xs, h1, h2⟩ => by
    obtain ⟨rfl, g1, b, ws, g2, g3, _, _, _, _, zs, g4⟩ := at' h1
    exact .inl ⟨i, true, zs, by rw [gt_some]; exact g4, h2⟩, th⟩
  refine ⟨nx, ⟨fun i d e => ?_, fun i io xs e => ?_, fun i j io jo xs ys a h1 h2 h3 h4 => ?_, fun a q => ?_, ?_⟩, ow⟩
  · rw [gt_some] at e
    obtain ⟨u, h1, h2⟩ := p0.dat i d (by rw [gt_some]; exact puts_dat.mp e)
    refine ⟨u, h1, h2.mono fun a o' e nb => ?_⟩
    obtain ⟨h3, h4⟩ := nx.bad (F := F) a o' e nb
    exact ⟨h3, fun q => by
      rcases q with (q | q) | q
      · exact h4 (.inl q)
      · rw [s1 _ q] at e; cases e
      · exact h4 (.inr q)⟩
  · obtain ⟨rfl, g1, a, ws, g2, g3, g4, g5, g6, g7, _⟩ := at' e
    refine ⟨a, ws, g3, g4, g5.mono fun b o' e' nb => ⟨e', fun q => ?_⟩, fun q => ?_, fun _ => g7⟩
    · rcases q with (q | q) | q
      · exact nb (.inl (gF _ q))
      · exact nb (s4 _ q)
      · exact nb (.inr (ow b q).1)
    · rcases q with q | q
      · exact g6 (gF _ q)
      · exact s3 _ _ _ q g1 g2
  · obtain ⟨rfl, f1, b, _, f2, f3, _⟩ := at' h1
    obtain ⟨rfl, g1, b', _, g2, g3, _⟩ := at' h2
    rw [h3] at f3; cases f3
    rw [h4] at g3; cases g3
    exact p.inj i j _ _ _ _ a f1 g1 f2 g2
  · rcases q with q | q
    · exact p.fdom a (gF _ q)
    · exact s2 a q
  · have := p0.len
    simp only [List.length_map] at this ⊢
    rw [puts_len]; exact this
theorem fin_ok {Qd : Rs → List (List D) → Prop} {Q : VK} (hl : vs.length ≤ N.length) (p0 : Rp K (IOof vs) F H (vs.map some) (sl.map some))
    (n : Nx (L2.start N vs) (sl.map some ++ List.replicate (N.length - sl.length) none) H σ' ρ' H') (ok : RsOk K (IOof vs) F H' σ' ρ' v r) (fr' : ∀ a, fr v r a → H a = none) (q : fin sl Qd r ρ')
    (k : ∀ v H' r outs, Nx (vs.map some) (sl.map some) H (vs.map some) ((puts sl outs).map some) H' → RsOk K (IOof vs) F H' (vs.map some) ((puts sl outs).map some) v r → noref r → (∀ a, fr v r a → H a = none) → Qd r outs → Q v H') : Q v H' := by
  obtain ⟨_, ow0⟩ := Rp.start (N := N) p0 hl
  have kp : ∀ a o', H a = some o' → ¬ Own (vs.map some) (sl.map some) a → H' a = some o' := fun a o' e q => n.keep a o' e fun z => q (ow0 a z)
  unfold fin at q
  cases ho : outs sl ρ' with
  | none => rw [ho] at q; exact q.elim
  | some o =>
  rw [ho] at q
  -- a datum
  have dat : ∀ d, DV K H' (Bad F σ' ρ') v d → Qd (.dat d) o → Q v H' := fun d dv q => by
    obtain ⟨nx, p1, ow⟩ := back (fun _ => False) F (fun _ q => q) (fun _ q => q.elim) p0 kp n.there ok.rp' ho (fun _ q => q.elim) (fun _ q => q.elim) (fun _ _ _ q => q.elim)
    refine k v H' (.dat d) o nx (.ofDat (p1.less fun a q => .inl q) (dv.mono fun b o' e nb => ⟨e, fun q => ?_⟩)) trivial (fun _ q => q.elim) q
    rcases q with q | q
    · exact nb (.inl q)
    · exact nb (.inr (ow b q).1)
  cases r with
  | dat d => exact dat d ok.r1' q
  | own xs =>
    obtain ⟨a, ws, rfl, e2, e3⟩ := ok.r1
    obtain ⟨nx, p1, ow⟩ := back (fun b => fr (.ref a) (.own xs) b) (FF F (.ref a) (.own xs)) (fun _ q => .inl q) (fun b q => .inl (.inr q)) p0 kp n.there ok.rp ho fr' (fun b q => by cases q; rw [e2]; simp)
      (fun b i ys q h1 h2 => ok.rp.own_ne ⟨i, _, _, h1, h2⟩ (.inr q))
    refine k (.ref a) H' (.own xs) o nx ⟨p1, ⟨a, ws, rfl, e2, e3.mono fun b o' e nb => ⟨e, fun q => nb ?_⟩⟩, ok.nf⟩ trivial fr' q
    rcases q with q | q
    · exact .inl q
    · exact .inr (ow b q).1
  | ref i =>
    have e1 : σ'[i]? = some (some v) := ok.r1
    dsimp only at q
    split at q
    · rename_i d g
      obtain ⟨u, h1, h2⟩ := ok.rp'.dat i _ g
      rw [e1] at h1; cases h1
      exact dat d h2 q
    · rename_i xs g
      obtain ⟨a, ws, h1, h2, h3, h4, h5⟩ := ok.rp'.own i _ _ g
      rw [e1] at h1; cases h1
      have oa : Own σ' ρ' a := ⟨i, _, _, g, e1⟩
      have ne : ∀ {j ys}, gt ρ' j = some (.own true ys) → σ'[j]? ≠ some (some (.ref a)) := fun {j ys} g2 z => by
        have := ok.rp'.inj i j _ _ _ _ a g g2 e1 z
        subst this
        rw [g] at g2; cases g2
      have fa : H a = none := by
        rcases n.sub a oa with z | z
        · obtain ⟨j, io, zs, g1, g2⟩ := ow0 a z
          rw [gt_some] at g1
          obtain ⟨rfl, ys, g3, _⟩ := outs_io ho g1
          obtain ⟨b, _, f1, _, _, _, f5⟩ := ok.rp'.own j _ _ g3
          have := io_at (f5 rfl)
          rw [g2] at this; cases this
          exact (ne g3 f1).elim
        · exact z
      have hS : ∀ {b}, fr (V.ref a) (Rs.own xs) b → b = a := fun {b} q => by cases q; rfl
      obtain ⟨nx, p1, ow⟩ := back (fun b => fr (.ref a) (.own xs) b) F (fun _ q => q) (fun b q => .inr (by rw [hS q]; exact oa)) p0 kp n.there ok.rp' ho (fun b q => by rw [hS q]; exact fa) (fun b q => by rw [hS q, h2]; simp)
        (fun b j ys q g2 z => ne g2 (by rw [hS q] at z; exact z))
      refine k (.ref a) H' (.own xs) o nx ⟨p1, ⟨a, ws, rfl, h2, h3.mono fun b o' e nb => ⟨e, fun q => nb ?_⟩⟩, fun b q => by rw [hS q]; exact h4⟩ trivial (fun b q => by rw [hS q]; exact fa) q
      rcases q with (q | q) | q
      · exact .inl q
      · rw [hS q]; exact .inr oa
      · exact .inr (ow b q).1
    · exact q.elim
end
end DL
/-! DL19: a def's promise from its body; a law's end. -/
namespace DL
open PySem PySem.Spec PyProof.Rows L2
/-- a def that runs with no text being shown around -/
theorem fn_ofG {CX : CXT} {P : Program} {w : World} {K : PySem.W.Frag} {mg : Str → Option Value} {base : Heap} {k : Nat} {x qual : Str} {st : Stmt} {f : Addr} {fd : FuncData} {N ps : List Str} {sp : Sp} (F : C8.Fun K x qual st f fd) (S : FnScope N ps (C8.fnScope st))
    (len : ∀ vs H Q E, sp vs H Q E → vs.length = ps.length)
    (hbody : ∀ (cdv : Value) (A : Around) (outer : List Env) (s : Shared) (H : Hp) (vs : List V) (Q : VK) (E : XK), A.guards = some [] → Room k (A.deeper (envOfC qual (C8.fnScope st) s.heap.objs.size f cdv)) → sp vs H Q E →
      ∃ t, PSs (cxOf CX P w K mg base N qual (C8.fnScope st) f cdv A outer s H E) (C8.fnBody st) t ∧ t { nx := fun _ H' => Q .non H', rt := Q } (L2.start N vs) H) :
    FnG P w K mg base CX (k + 1) f fd ps sp := by
  obtain ⟨oc, od, dV, kV, doc, pm, an, cdv, ct, osl, rfl, lk, hcd⟩ := F.ex
  refine ⟨len, fun A outer s H args us vs Q E hg hr e0 hb r hsp => ?_⟩
  have hl := len _ _ _ _ hsp
  have KX : K.In s.heap := e0.mod.kin.keeps fun b o e => (e0.bs b o e).1
  refine codeAny_call_function hr.depth (KX _ _ lk) rfl S.co S.gen rfl (PySem.W.codeRec_of KX hcd) (hb _ _ _ _ ?_)
  refine wpAny_newFunctionEnv_cells S.kind (fun ⟨n, v⟩ hy => (S.par n (List.of_mem_zip hy).1).imp id fun q => ⟨q, PySem.W.cellsFrom_some _ _ _ (.inl q)⟩) fun env he s1 x => ?_
  subst he
  refine ⟨(e0.mod.nolimit.keeps fun b o e => (e0.bs b o e).1).keeps x.toInCall.keep, codeAny_func ?_⟩
  obtain ⟨t, ht, hq⟩ := hbody cdv A outer s H vs Q E hg (hr.deeper _) hsp
  refine wpAny_mono (ht.run [] s1 (L2.start N vs) H _ (inv_start S hr.hd e0 hl r x) hq) (fun fl s' hs => ?_) fun e s' hs => hs
  cases fl with
  | ret u =>
    obtain ⟨v, _, H', J, rv, q⟩ := hs
    exact ⟨v, H', J.os, J.bare, J.base, J.hok, rv, q⟩
  | next =>
    obtain ⟨_, H', J, q⟩ := hs
    exact ⟨V.non, H', J.os, J.bare, J.base, J.hok, rfl, q⟩
  | brk =>
    obtain ⟨_, _, _, q⟩ := hs
    exact q.elim
  | cont =>
    obtain ⟨_, _, _, q⟩ := hs
    exact q.elim
/-- .. at the level of data -/
theorem fn_rule {CX : CXT} {P : Program} {w : World} {K : PySem.W.Frag} {mg : Str → Option Value} {base : Heap} {k n : Nat} {x qual : Str} {st : Stmt} {f : Addr} {fd : FuncData} {N ps : List Str} {Γ : Gam} {body : List Sm} {xt : Str → Option (Addr × Str)}
    (F : C8.Fun K x qual st f fd) (S : FnScope N ps (C8.fnScope st)) (hp : ps.length = n)
    (hbody : ∀ (cdv : Value) (A : Around) (outer : List Env) (s : Shared) (H : Hp) (vs : List V) (E : XK), A.guards = some [] → Room k (A.deeper (envOfC qual (C8.fnScope st) s.heap.objs.size f cdv)) →
      PSs (cxOf CX P w K mg base N qual (C8.fnScope st) f cdv A outer s H E) (C8.fnBody st) (tDS ⟨K, xt, IOof vs, E⟩ (wpSs Γ body))) :
    FnG P w K mg base CX (k + 1) f fd ps (hs K xt n (wpF Γ n N.length body)) := by
  refine fn_ofG F S (fun vs H Q E h => by rw [hp]; exact hs_len vs H Q E h) fun cdv A outer s H vs Q E hg hr h => ⟨_, hbody cdv A outer s H vs E hg hr, ?_⟩
  have hn := hs_len vs H Q E h
  obtain ⟨F', sl, Qd, Ed, h1, p0, ⟨_, hw⟩, kq, kx⟩ := h
  have hN : vs.length ≤ N.length := by have := congrArg List.length S.pre; rw [List.length_take] at this; omega
  have hsl : sl.length = n := h1
  obtain ⟨p1, ow⟩ := Rp.start (N := N) p0 hN
  rw [hsl] at p1 ow
  have kont : ∀ v H' σ' ρ' r, Nx (L2.start N vs) (sl.map some ++ List.replicate (N.length - n) none) H σ' ρ' H' → RsOk K (IOof vs) F' H' σ' ρ' v r → (∀ a, fr v r a → H a = none) → fin sl Qd r ρ' → Q v H' := fun v H' σ' ρ' r n1 ok f1 q =>
    fin_ok (N := N) hN p0 (by rw [hsl]; exact n1) ok f1 q kq
  refine ⟨F', _, Ed, _, p1, hw, fun cls dx H' xx kp ok e => kx cls dx H' xx (fun a o e q => kp a o e fun z => q (ow a z)) ok e, fun σ' H' ρ' n1 p1 q => ?_, kont, fun _ _ _ _ _ q => q.elim, fun _ _ _ _ _ q => q.elim⟩
  exact kont .non H' σ' ρ' (.dat .none) n1 (.ofDat p1 .non) (fun _ z => z.elim) q
end DL
/-! DL20: a law's end. -/
namespace DL
open PySem PySem.Spec PyProof.Rows L2
def IsScript (spd : DSp) (n : Nat) : Prop := ∀ ns : List Int, ns.length ≤ n → spd [.dat (.list (ns.map .int))] (fun r _ => r = .dat (.bool true)) fun _ => False
/-- the call of a law's def -/
theorem law_call {P : Program} {w : World} {K : PySem.W.Frag} {mg mb : Str → Option Value} {CX : CXT} {k n : Nat} {fa a : Addr} {fd : FuncData} {x : Str} {spd : DSp} {xt : Str → Option (Addr × Str)} {s₁ : Shared} {vs : List Value} {ns : List Int}
    (KX : K.In s₁.heap) (hns : s₁.heap.Ns mainGlobals mg) (hb : s₁.heap.Ns builtinsNs mb) (hbb : ∀ x : Str, x ≠ "__name__" → mb x = bootBuiltins x) (hlim : s₁.heap.NoLimit) (hg : s₁.gens = #[])
    (ha : s₁.heap.get? a = some { cls := .type "list", data := .seq vs.toArray }) (hi : IntsAre vs ns) (hn : ns.length ≤ n) (hl : n ≤ sizeLine) (hr : Room k callerA)
    (F : ∀ base : Heap, K.In base → base.Ns mainGlobals mg → FnG P w K mg base CX k fa fd [x] (hs K xt 1 spd)) (hbind : ∀ (s : Shared) (u : Value), BindsTo s fd ⟨[u], []⟩ [(x, u)])
    (hsp : IsScript spd n) (hCX : ∀ (H : Hp) (e : Value) (s' : Shared), CX [] H s₁ (fun _ _ _ => False) e s' → False) :
    codeAny (model P w) callerA (.call (.ref fa) ⟨[.ref a], []⟩) (fun r s' => r = .ok (.ret (.bool true)) ∧ OldK s₁.heap s'.heap ∧ s'.os = s₁.os ∧ AllBare s'.gens) s₁ := by
  have hz : ns.length ≤ sizeLine := Nat.le_trans hn hl
  -- T: whether the script is tracked
  have go : ∀ H : Hp, (H = (fun _ => none) ∨ (K.lookup a = none ∧ H = fun b => if b = a then some (.frz { cls := .type "list", data := .seq vs.toArray } (.lst (ns.map V.int))) else none)) → SqLb K H (fun _ => False) a (ns.map V.int) →
      codeAny (model P w) callerA (.call (.ref fa) ⟨[.ref a], []⟩) (fun r s' => r = .ok (.ret (.bool true)) ∧ OldK s₁.heap s'.heap ∧ s'.os = s₁.os ∧ AllBare s'.gens) s₁ := by
    intro H hH hS
    have at' : ∀ {b : Addr} {u : HO}, H b = some u → b = a ∧ K.lookup a = none ∧ u = .frz { cls := .type "list", data := .seq vs.toArray } (.lst (ns.map V.int)) := fun {b u} e => by
      rcases hH with rfl | ⟨h1, rfl⟩
      · cases e
      · by_cases hb : b = a
        · have e' := (if_pos hb).symm.trans e
          cases e'; exact ⟨hb, h1, rfl⟩
        · have e' := (if_neg hb).symm.trans e
          cases e'
    have hid : ∀ {b : Addr} {o : Obj}, s₁.heap.get? b = some o → (∀ u, H b = some u → False) → (hidT s₁.heap H).get? b = some o := fun {b o} e n => hidT_get e (by
      cases q : H b with
      | none => rfl
      | some u => exact (n u q).elim)
    have nsK : ∀ {b : Addr} {m : Str → Option Value}, s₁.heap.Ns b m → (hidT s₁.heap H).Ns b m := fun {b m} ⟨o, es, ep, e, d, r⟩ => ⟨o, es, ep, hid e (fun u q => by
      obtain ⟨rfl, _, _⟩ := at' q
      rw [ha] at e; cases e
      have d' : Data.seq vs.toArray _ = Data.dict es ep := d
      cases d'), d, r⟩
    have hKb : K.In (hidT s₁.heap H) := fun b o e => hid (KX b o e) fun u q => by
      obtain ⟨rfl, h, _⟩ := at' q
      rw [h] at e; cases e
    have hM : Mod K mg (hidT s₁.heap H) := ⟨hKb, nsK hns, ⟨mb, nsK hb, hbb⟩, let ⟨mc, h1, h2⟩ := hlim; ⟨mc, nsK h1, h2⟩⟩
    have hok : HOk P w H s₁.heap := fun b u z => by
      obtain ⟨rfl, _, rfl⟩ := at' z
      exact ⟨ha, by rw [List.length_map]; exact hz, vs, _, vals_ints hi, ha⟩
    have e0 : Env0 P w K mg (hidT s₁.heap H) callerA [] s₁ H := ⟨rfl, hM, fun b o e => of_hidT e, Nat.le_of_eq (hidT_size _ _), trivial, fun b hb => absurd (show b ∈ ([] : List Addr) from hb) (by simp), hok, .of_eq hg⟩
    have sp : hs K xt 1 spd [.ref a] H (fun v _ => v = .bl true) fun _ _ _ => False := by
      refine ⟨fun _ => False, [.dat (.list (ns.map .int))], _, _, rfl, ⟨fun i d e => ?_, fun i io xs e => ?_, fun i j io jo xs ys b e => ?_, fun b q => q.elim, rfl⟩, hsp ns hn, fun v H' r outs _ ok _ _ q => ?_, fun _ _ _ _ _ _ q => q⟩
      · cases i with
        | zero =>
          simp only [List.map_cons, gt] at e
          cases e
          refine ⟨_, rfl, .lst ?_ (DVs.of_ints ns)⟩
          rcases hS with ⟨h1, _⟩ | h1
          · refine .inl ⟨h1, fun q => q.elim id fun ⟨j, io, xs, g, _⟩ => ?_⟩
            cases j with
            | zero => simp [gt] at g
            | succ j => simp [gt] at g
          · exact .inr h1
        | succ i => simp [gt] at e
      · cases i with
        | zero => simp [gt] at e
        | succ i => simp [gt] at e
      · cases i with
        | zero => simp [gt] at e
        | succ i => simp [gt] at e
      · subst q
        exact (DR.dv ok.r1').bl
    refine codeAny_mono ((F _ hKb (nsK hns)).run callerA [] s₁ H ⟨[.ref a], []⟩ [.ref a] [.ref a] _ _ rfl hr e0 (hbind s₁ (.ref a)) (.cons rfl .nil) sp) fun r s' h => ?_
    match r, h with
    | .error e, h => exact (hCX H e s' h).elim
    | .ok .next, h => exact h.elim
    | .ok .brk, h => exact h.elim
    | .ok .cont, h => exact h.elim
    | .ok (.ret u), ⟨v, H', os, bare, un, hok', r', q⟩ =>
      subst q
      obtain rfl : u = Value.bool true := r'
      refine ⟨rfl, OldK.of_keep fun b o e => ?_, os, bare⟩
      cases q : H b with
      | none => exact un.keep b o e q (by intro z; exact absurd (show b ∈ ([] : List Addr) from z) (by simp)) (by simp)
      | some u =>
        obtain ⟨rfl, _, rfl⟩ := at' q
        obtain ⟨e2, _⟩ := hok' b _ (un.frzs b _ _ q)
        rw [ha] at e; cases e
        exact e2
  cases hk : K.lookup a with
  | some o =>
    have e := KX a o hk
    rw [ha] at e
    cases e
    exact go (fun _ => none) (.inl rfl) (.inr ⟨_, vs.toArray, _, hk, rfl, rfl, rfl, by rw [List.size_toArray, hi.length]; exact hz, by simpa using vals_ints hi⟩)
  | none => exact go _ (.inr ⟨hk, rfl⟩) (.inl ⟨.inr ⟨_, if_pos rfl⟩, id⟩)
/-- the goal that a law's head leaves -/
theorem walk_of {l : PySem.W.OpenLaw} {n k : Nat} {q : Program} {loose : List Str} {XP : (Str → Option Value) → Heap → Prop} {YP : World → Heap → Prop} {d : DefRec} {K : Params → PySem.W.Frag} {CX : World → CXT} {xt : World → Str → Option (Addr × Str)} {spd : DSp} {x : Str}
    (hn : l.most = some n) (hn2 : n ≤ sizeLine) (hdf : d.params.defaults = []) (hr : Room k callerA)
    (hY : ∀ (w : World) (h : Heap), YP w h → (K w.params).In h)
    (F : ∀ (w : World) (mg : Str → Option Value) (fa : Addr) (h : Heap), (K w.params).In h → h.Ns mainGlobals mg → mg d.name = some (.ref fa) →
      ∃ fd : FuncData, (∀ (s : Shared) (u : Value), BindsTo s fd ⟨[u], []⟩ [(x, u)]) ∧
        ∀ base : Heap, (K w.params).In base → base.Ns mainGlobals mg → FnG l.prog w (K w.params) mg base (CX w) k fa fd [x] (hs (K w.params) (xt w) 1 spd))
    (hsp : IsScript spd n)
    (hCX : ∀ (w : World) (H : Hp) (s : Shared) (e : Value) (s' : Shared), CX w [] H s (fun _ _ _ => False) e s' → False) :
    PySem.W.WalkO q loose XP YP l.row.toRowW d [] (fun f vs => PySem.call f vs) := by
  refine Att.attach_call hn hdf fun w s₀ s₁ mg mb fa o pm cd doc a vs ns G Y ho hd hcd hmg hobj hints hlen hg => ?_
  have KX := hY w _ Y
  obtain ⟨fd, hb, hF⟩ := F w mg fa _ KX G.T.g hmg
  exact law_call KX G.T.g G.T.b G.T.builtins G.T.nolimit hg hobj hints hlen hn2 hr hF hb hsp fun H e s' => hCX w H s₁ e s'
end DL
/-! DL21: enumerate, zip, reversed over lists and tuples. -/
namespace DL
open PySem PySem.Spec PyProof.Rows L2
/-- a list (false) or a tuple (true) -/
def SqA (K : PySem.W.Frag) (H : Hp) (a : Addr) (xs : List V) : Bool → Prop
  | false => SqL K H a xs
  | true => SqT K H a xs
def itSt (it a : Addr) (i : Nat) (h : Heap) : Bool → Prop
  | false => h.IsListIter it a i
  | true => h.IsTupleIter it a i
def seqAt (h : Heap) (a : Addr) (its : Array Value) : Bool → Prop
  | false => h.IsList a its
  | true => h.IsTuple a its
theorem itSt.obj {it a : Addr} {i : Nat} {h : Heap} : ∀ {b : Bool}, itSt it a i h b → ∃ o, h.get? it = some o ∧ ∀ v, o.data ≠ .cell v
  | false, ⟨o, ho, _, hd⟩ => ⟨o, ho, fun v q => by rw [hd] at q; cases q⟩
  | true, ⟨o, ho, _, hd⟩ => ⟨o, ho, fun v q => by rw [hd] at q; cases q⟩
theorem itSt.at {it a : Addr} {i : Nat} {h h' : Heap} : ∀ {b : Bool}, itSt it a i h b → (∀ o, h.get? it = some o → h'.get? it = some o) → itSt it a i h' b
  | false, ⟨o, ho, r⟩, k => ⟨o, k _ ho, r⟩
  | true, ⟨o, ho, r⟩, k => ⟨o, k _ ho, r⟩
theorem inv_seq {X : Cx} {pins : List (Addr × Obj)} {σ : St} {H : Hp} {s : Shared} {a : Addr} {xs : List V} (I : Inv X pins σ H s) : ∀ {b : Bool}, SqA X.K H a xs b → ∃ its : List Value, Vals xs its ∧ seqAt s.heap a its.toArray b ∧ xs.length ≤ sizeLine
  | false, h => let ⟨its, r, p, z⟩ := I.list h; ⟨its, r, p.isList, z⟩
  | true, h => let ⟨its, r, p, z⟩ := I.tuple h; ⟨its, r, p, z⟩
theorem inv_inj {X : Cx} {pins : List (Addr × Obj)} {σ : St} {H : Hp} {s : Shared} {a : Addr} {xs ys : List V} (I : Inv X pins σ H s) : ∀ {b : Bool}, SqA X.K H a xs b → SqA X.K H a ys b → xs = ys
  | false, h, g => I.list_inj h g
  | true, h, g => I.tuple_inj h g
theorem seq_ne {it a : Addr} {i : Nat} {h : Heap} {its : Array Value} : ∀ {b : Bool}, itSt it a i h b → seqAt h a its b → a ≠ it
  | false, ⟨o, ho, hc, hd⟩, ⟨o2, ho2, hc2, hd2⟩ => fun e => by
    subst e
    rw [ho] at ho2; cases ho2
    rw [hc] at hc2; simp at hc2
  | true, ⟨o, ho, hc, hd⟩, ⟨o2, ho2, hc2, hd2⟩ => fun e => by
    subst e
    rw [ho] at ho2; cases ho2
    rw [hc] at hc2; simp at hc2
theorem drawsA {prog : Program} {w : World} {A : Around} (hh : A.handled = none) (it a : Addr) (hne : a ≠ it) (items : Array Value) :
    ∀ b : Bool, Draws prog w A it [it, a] items.size (fun i v => items[i]? = some v) (fun i h => itSt it a i h b ∧ seqAt h a items b)
  | false => Draws.list hh it a hne items
  | true => Draws.tuple hh it a hne items
def itObj (a : Addr) : Bool → Obj
  | false => { cls := .type "list_iterator", data := .fields #[.ref a, .int 0 0] }
  | true => { cls := .type "tuple_iterator", data := .fields #[.ref a, .int 0 0] }
theorem beginsA (a : Addr) (items : Array Value) : ∀ b : Bool, Begins (.ref a) (itObj a b) (fun h => seqAt h a items b)
  | false => begins_list a items
  | true => begins_tuple a items
theorem itSt.new {it a : Addr} {h : Heap} : ∀ {b : Bool}, h.get? it = some (itObj a b) → itSt it a 0 h b
  | false, e => ⟨_, e, rfl, rfl⟩
  | true, e => ⟨_, e, rfl, rfl⟩
/-! ### enumerate -/
def IteA (K : PySem.W.Frag) (b : Bool) (a : Addr) (_ : Nat) : It :=
  ⟨fun i H => ∃ (xs : List V) (x : V), SqA K H a xs b ∧ xs[i]? = some x,
   fun i H v H' => ∃ T x, v = .ref T ∧ H T = none ∧ H' = upd H T (.tup [.int (i : Nat), x]) ∧ ∀ xs, SqA K H a xs b → xs[i]? = some x,
   fun i H => ∃ xs : List V, SqA K H a xs b ∧ xs.length = i⟩
theorem turn_enumA {P : Program} {w : World} {K : PySem.W.Frag} {elts : List Expr} {kk : Nat} {tpos : Pos} (b : Bool) (n : Nat) (a e it : Addr) :
    Turn P w K (.Tuple elts kk tpos) (IteA K b a n) [e, it] e (fun i h => (∃ old, IsEnum h e it ((i : Nat) : Int) old) ∧ itSt it a i h b ∧ e ≠ it ∧ e ≠ a) where
  mem := by simp
  obj := fun i h st c hc => by
    obtain ⟨⟨old, he⟩, hi, _⟩ := st
    have e' : c = e ∨ c = it := by simpa using hc
    rcases e' with z | z
    · rw [z]; exact ⟨_, he, fun v q => nomatch q⟩
    · rw [z]; exact hi.obj
  keep := fun i h h' st k => let ⟨⟨old, he⟩, hi, hne⟩ := st; ⟨⟨old, k e (by simp) _ he⟩, hi.at fun o q => k it (by simp) o q, hne⟩
  item := by
    intro X hP hw hK hc i pins s σ H E I hf st hg
    subst hP hw hK
    obtain ⟨⟨old, he⟩, hit, hne, hea⟩ := st
    obtain ⟨xs, x, hq, hx⟩ := hg
    obtain ⟨its, rv, p, hz⟩ := inv_seq I hq
    obtain ⟨u, hu, ru⟩ := rv.get hx
    have hel : e < s.heap.objs.size := Heap.lt_size he
    have hil : it < s.heap.objs.size := by obtain ⟨_, q, _⟩ := hit.obj; exact Heap.lt_size q
    have hlt : i < its.toArray.size := by
      rcases Nat.lt_or_ge i its.length with q | q
      · simpa using q
      · rw [List.getElem?_eq_none q] at hu; cases hu
    refine wpAny_pyNext_enum_itemD (drawsA (A := X.A.in1) (I.ok.hd hc) it a (seq_ne hit p) its.toArray b) he ⟨hit, p⟩ hlt hne (by simp [hne, hea]) fun y h' tk hP ho hit' hT hsz hk => ?_
    have hyu : y = u := by
      have : its[i]? = some y := by simpa using hP
      rw [hu] at this; exact (Option.some.inj this).symm
    subst hyu
    refine ⟨_, rfl, wpAny_letOwnedTupleGo_enum (s := { s with heap := h', toks := tk + 1 }) ho fun h'' he' sb => ?_⟩
    have hT2 : h''.get? s.heap.objs.size = some { cls := .type "tuple", data := .seq #[.int i tk, y] } := (sb.2 _ (Nat.ne_of_gt hel)).trans hT
    have new : ObjOk X.prog X.w (upd H s.heap.objs.size (.tup [.int (i : Nat), x])) h'' s.heap.objs.size (.tup [.int (i : Nat), x]) :=
      ⟨by show 2 ≤ sizeLine; decide, [.int i tk, y], .cons ⟨_, rfl⟩ (.cons ru .nil), ⟨_, hT2, rfl, _, rfl⟩⟩
    have I1 : Inv X pins σ (upd H s.heap.objs.size (.tup [.int (i : Nat), x])) { s with heap := h'', toks := tk + 1 } :=
      I.turnedNew (ch := [e, it]) (fun c ob hb q => (sb.2 c (fun z => hb (by simp [z]))).trans (hk c ob (fun z => hb (by simp [z])) (fun z => hb (by simp [z])) q)) hf (Nat.le_refl _) new
    refine ⟨.ref s.heap.objs.size, _, I1, rfl, ⟨_, x, rfl, I.hok.fresh (Nat.le_refl _), rfl, fun ys hy => by rw [inv_inj I hy hq]; exact hx⟩, ⟨⟨y, ?_⟩, hit'.1.at fun o q => (sb.2 it (Ne.symm hne)).trans q, hne, hea⟩, fun c hcm => ?_⟩
    · have e1 : ((i + 1 : Nat) : Int) = (i : Int) + 1 := by omega
      rw [e1]; exact he'
    · have hb' : c < s.heap.objs.size := by
        have e' : c = e ∨ c = it := by simpa using hcm
        rcases e' with z | z
        · rw [z]; exact hel
        · rw [z]; exact hil
      rw [upd_ne (Nat.ne_of_lt hb')]
      exact (hf c hcm).1
  done := by
    intro X hP hw hK hc i pins s σ H E I hf st hg
    subst hP hw hK
    obtain ⟨⟨old, he⟩, hit, hne, hea⟩ := st
    obtain ⟨xs, hq, hx⟩ := hg
    obtain ⟨its, rv, p, hz⟩ := inv_seq I hq
    obtain ⟨f0, f1, f2, f3, f4, f5⟩ := hf it (by simp)
    have hl := rv.length
    have hi : i = its.toArray.size := by simp; omega
    subst hi
    exact wpAny_pyNext_enum_endD (drawsA (A := X.A.in1) (I.ok.hd hc) it a (seq_ne hit p) its.toArray b) he ⟨hit, p⟩ fun h' eb => ⟨rfl, I.turned (t' := s.toks) (fun c o hb q => eb c o hb q) f0 f1 f3 f4 f5⟩
  self := fun A i s Q E st h => let ⟨⟨_, he⟩, _⟩ := st; wpAny_pyIter_enum he h
set_option maxHeartbeats 1000000 in
theorem meets_enum1 {v : Value} {o : Obj} {H : Heap → Prop} (B : Begins v o H) :
    Meets (Builtin.«enumerate.__new__» ⟨[.type "enumerate", v], []⟩) (fun _ R s => H s.heap ∧
      R (.ok (.ret (.ref (s.heap.push o).objs.size))) { s with heap := (s.heap.push o).push { cls := .type "enumerate", data := .fields #[.none, .bool false, .ref s.heap.objs.size, rawInt 0, .none, .none] } }) :=
  .of_wp fun prog w A R s h => by
    obtain ⟨hp, g, d, tk, os⟩ := s; obtain ⟨h1, h⟩ := h
    have hsub := sub_enumerate
    have q1 : ∀ {A' : Around} {E : Value → Shared → Prop} {Q : Value → Shared → Prop}, Q (.ref hp.objs.size) ⟨hp.push o, g, d, tk, os⟩ → wpAny (model prog w) A' (pyIter v) Q E ⟨hp, g, d, tk, os⟩ :=
      fun q => B.iter prog w _ _ ⟨hp, g, d, tk, os⟩ _ h1 q
    wp_walk using q1
    refine wpAny_stack_any fun st => wpAny_pure ?_
    split
    · rename_i c _ _ _ _ _
      cases (c == Value.type "enumerate")
      · wp_walk using q1
        exact ⟨_, rfl, h⟩
      · wp_walk using q1
        exact ⟨_, rfl, h⟩
    · wp_walk using q1
      exact ⟨_, rfl, h⟩
theorem enum_begins1 {prog : Program} {w : World} {A : Around} {E : Value → Shared → Prop} {s : Shared} {v : Value} {o : Obj} {H : Heap → Prop} {Q : Value → Shared → Prop} (B : Begins v o H) (h1 : H s.heap)
    (h : ∀ h', IsEnum h' (s.heap.objs.size + 1) s.heap.objs.size 0 .none → h'.get? s.heap.objs.size = some o → h'.objs.size = s.heap.objs.size + 2 →
      (∀ b o, s.heap.get? b = some o → h'.get? b = some o) → Q (.ref (s.heap.objs.size + 1)) { s with heap := h' }) :
    wpAny (model prog w) A (call (.type "enumerate") [v]) Q E s := by
  refine callType_new F.called_enumerate (by decide) (F.typeCall_enumerate_1 _) (F.newCall_enumerate_1 _) (fun obj => F.args_object_init_2 obj _) F.entry_enumerate_new (meets_enum1 B) ⟨h1, ?_⟩
  have hz : (s.heap.push o).objs.size = s.heap.objs.size + 1 := Heap.size_push ..
  show _ ∧ _
  rw [hz]
  have he : IsEnum ((s.heap.push o).push { cls := .type "enumerate", data := .fields #[.none, .bool false, .ref s.heap.objs.size, rawInt 0, .none, .none] }) (s.heap.objs.size + 1) s.heap.objs.size 0 .none := by
    have := Heap.get?_push_size (s.heap.push o) (o := { cls := .type "enumerate", data := .fields #[.none, .bool false, .ref s.heap.objs.size, rawInt 0, .none, .none] }) rfl
    rw [hz] at this; exact this
  exact ⟨⟨_, he, rfl⟩, h _ he (Heap.get?_push_of_some _ (Heap.get?_push_size _ B.free)) (by rw [Heap.size_push, hz]) fun b o x => Heap.get?_push_of_some _ (Heap.get?_push_of_some _ x)⟩
/-- a walk over a list or a tuple -/
def iSeqG (K : PySem.W.Frag) (J : Bool → Addr → Nat → It) (tl : TE) : TI := fun σ H R => tl σ H fun x H1 => ∃ a xs b, x = .ref a ∧ SqA K H1 a xs b ∧ (xs.length ≤ sizeLine → R (J b a xs.length) H1)
theorem seq_lt {h : Heap} {a : Addr} {its : Array Value} : ∀ {b : Bool}, seqAt h a its b → a < h.objs.size
  | false, ⟨o, ho, _⟩ => Heap.lt_size ho
  | true, ⟨o, ho, _⟩ => Heap.lt_size ho
theorem pi_enumA {X : Cx} {e : Expr} {te : TE} {p pos tpos : Pos} {elts : List Expr} {kk : Nat} (hg : Gl X "enumerate") (hm : X.mg "enumerate" = none) (he : PE X e te) (hs : starEach [e] X.env = (false, eval e X.env) :: starEach [] X.env) :
    PI X (.Tuple elts kk tpos) (.Call (.Name "enumerate" p) [e] [] pos) (iSeqG X.K (IteA X.K) te) := by
  refine ⟨fun pins s σ H R I h => ?_⟩
  refine Call_ (ld_blt I hg hm boot_enumerate (PyProof.Rows.callWith_type1 (args_cons (thn (he.run pins s σ H _ I h) fun u s1 ⟨v, H1, I1, r1, q1⟩ => args_nil ?_) hs) hs rfl))
  obtain ⟨a, xs, b, rfl, hq, q⟩ := q1
  obtain rfl : u = Value.ref a := r1
  obtain ⟨its, rv, p', hz⟩ := inv_seq I1 hq
  refine enum_begins1 (beginsA a its.toArray b) p' fun h' he hit hsz hk => wpAny_pyIter_enum he ?_
  have I2 : Inv X pins σ H1 { s1 with heap := h' } := I1.kept (t' := s1.toks) hk
  refine ⟨s1.heap.objs.size + 1, [s1.heap.objs.size + 1, s1.heap.objs.size], _, _, H1, rfl, I2, turn_enumA b xs.length a (s1.heap.objs.size + 1) s1.heap.objs.size, ⟨⟨.none, he⟩, itSt.new hit, Nat.succ_ne_self _, Nat.ne_of_gt (Nat.lt_succ_of_lt (seq_lt p'))⟩, fun c hc => ?_, q hz⟩
  have e' : c = s1.heap.objs.size + 1 ∨ c = s1.heap.objs.size := by simpa using hc
  have hle : s1.heap.objs.size ≤ c := by
    rcases e' with z | z
    · rw [z]; exact Nat.le_add_right _ _
    · rw [z]; exact Nat.le_refl _
  exact I1.fpOk hle (I1.hok.fresh hle)
/-- reversed -/
def ItvA (K : PySem.W.Frag) (b : Bool) (a : Addr) (n : Nat) : It := match b with
  | false => Itv K a n
  | true => RT.ItvT K a n
theorem pe_len {X : Cx} {e : Expr} {te : TE} (he : PE X e te) : PE X e (fun σ H Q => te σ H fun v H1 => (∀ a xs b, v = .ref a → SqA X.K H1 a xs b → xs.length ≤ sizeLine) → Q v H1) :=
  ⟨fun pins s σ H Q I h => wpAny_mono (he.run pins s σ H _ I h) (fun _ _ ⟨v, H', I', r, q⟩ => ⟨v, H', I', r, q fun a xs b _ hq => (inv_seq I' hq).choose_spec.2.2⟩) fun _ _ z => z⟩
theorem pi_revG {X : Cx} {tg e : Expr} {te : TE} {p pos : Pos} (hg : Gl X "reversed") (hm : X.mg "reversed" = none) (he : PE X e te) (hm' : ∀ σ H (P Q : VK), (∀ v H', P v H' → Q v H') → te σ H P → te σ H Q) (hs : starEach [e] X.env = (false, eval e X.env) :: starEach [] X.env) :
    PI X tg (.Call (.Name "reversed" p) [e] [] pos) (iSeqG X.K (ItvA X.K) te) :=
  (RT.pi_revA hg hm (pe_len he) hs).imp fun σ H R h => hm' _ _ _ _ (fun v H1 ⟨a, xs, b, hv, hq, q⟩ hl => ⟨a, xs, hv, by
    cases b with
    | false => exact .inl ⟨hq, q (hl a xs false hv hq)⟩
    | true => exact .inr ⟨hq, q (hl a xs true hv hq)⟩⟩) h
end DL
/-! DL22: zip over lists and tuples; the walks at the level of data. -/
namespace DL
open PySem PySem.Spec PyProof.Rows L2
def ItzA (K : PySem.W.Frag) (b1 b2 : Bool) (a1 a2 : Addr) : It :=
  ⟨fun i H => ∃ (xs ys : List V) (x y : V), SqA K H a1 xs b1 ∧ SqA K H a2 ys b2 ∧ xs[i]? = some x ∧ ys[i]? = some y,
    fun i H v H' => ∃ T x y, v = .ref T ∧ H T = none ∧ H' = upd H T (.tup [x, y]) ∧ (∀ xs, SqA K H a1 xs b1 → xs[i]? = some x) ∧ ∀ ys, SqA K H a2 ys b2 → ys[i]? = some y,
    fun i H => ∃ xs ys : List V, SqA K H a1 xs b1 ∧ SqA K H a2 ys b2 ∧ min xs.length ys.length = i⟩
theorem some_lt {α : Type} {l : List α} {i : Nat} {x : α} (h : l[i]? = some x) : i < l.length := (List.getElem?_eq_some_iff.mp h).1
theorem turn_zipA {P : Program} {w : World} {K : PySem.W.Frag} {elts : List Expr} {kk : Nat} {tpos : Pos} {b1 b2 : Bool} {a1 a2 z TI TO i1 i2 : Addr} (D : ZipSep2 z TI TO i1 i2 [i1, a1] [i2, a2]) :
    Turn P w K (.Tuple elts kk tpos) (ItzA K b1 b2 a1 a2) [z, TI, TO, i1, i2] z (fun i h => IsZip h z TI TO .none ∧ IsTupOf2 h TI (.ref i1) (.ref i2) ∧ (∃ x y, IsTupOf2 h TO x y) ∧ itSt i1 a1 i h b1 ∧ itSt i2 a2 i h b2) where
  mem := by simp
  obj := fun i h st c hc => by
    obtain ⟨hz, hTI, ⟨x, y, hTO⟩, h1, h2⟩ := st
    have e' : c = z ∨ c = TI ∨ c = TO ∨ c = i1 ∨ c = i2 := by simpa using hc
    rcases e' with q | q | q | q | q
    · rw [q]; exact ⟨_, hz, fun v q => nomatch q⟩
    · rw [q]; exact ⟨_, hTI, fun v q => nomatch q⟩
    · rw [q]; exact ⟨_, hTO, fun v q => nomatch q⟩
    · rw [q]; exact h1.obj
    · rw [q]; exact h2.obj
  keep := fun i h h' st k => by
    obtain ⟨hz, hTI, ⟨x, y, hTO⟩, h1, h2⟩ := st
    exact ⟨k z (by simp) _ hz, k TI (by simp) _ hTI, ⟨x, y, k TO (by simp) _ hTO⟩, h1.at fun o q => k i1 (by simp) o q, h2.at fun o q => k i2 (by simp) o q⟩
  item := by
    intro X hP hw hK hc i pins s σ H E I hf st hg
    subst hP hw hK
    obtain ⟨hz, hTI, ⟨x0, y0, hTO⟩, h1, h2⟩ := st
    obtain ⟨xs, ys, x, y, hqx, hqy, hx, hy⟩ := hg
    obtain ⟨its, rv, p, _⟩ := inv_seq I hqx
    obtain ⟨its2, rv2, p2, _⟩ := inv_seq I hqy
    obtain ⟨u, hu, ru⟩ := rv.get hx
    obtain ⟨u2, hu2, ru2⟩ := rv2.get hy
    have hzl : z < s.heap.objs.size := Heap.lt_size hz
    refine wpAny_pyNext_zipD2_item D (drawsA (A := X.A.in1) (I.ok.hd hc) i1 a1 (seq_ne h1 p) its.toArray b1) (drawsA (A := X.A.in1) (I.ok.hd hc) i2 a2 (seq_ne h2 p2) its2.toArray b2) hz hTI hTO ⟨h1, p⟩ ⟨h2, p2⟩ (by simpa using some_lt hu) (by simpa using some_lt hu2)
      fun v1 v2 h' tk P1 P2 z' TO' h1' h2' hT hsz hk => ?_
    obtain rfl : v1 = u := by
      have : its[i]? = some v1 := by simpa using P1
      rw [hu] at this; exact (Option.some.inj this).symm
    obtain rfl : v2 = u2 := by
      have : its2[i]? = some v2 := by simpa using P2
      rw [hu2] at this; exact (Option.some.inj this).symm
    refine ⟨_, rfl, wpAny_letOwnedTupleGo_zip (s := { s with heap := h', toks := tk }) z' fun h'' z'' sb => ?_⟩
    have hT2 : h''.get? s.heap.objs.size = some { cls := .type "tuple", data := .seq #[v1, v2] } := (sb.2 _ (Nat.ne_of_gt hzl)).trans hT
    have new : ObjOk X.prog X.w (upd H s.heap.objs.size (.tup [x, y])) h'' s.heap.objs.size (.tup [x, y]) :=
      ⟨by show 2 ≤ sizeLine; decide, [v1, v2], .cons ru (.cons ru2 .nil), ⟨_, hT2, rfl, _, rfl⟩⟩
    have I1 : Inv X pins σ (upd H s.heap.objs.size (.tup [x, y])) { s with heap := h'', toks := tk } :=
      I.turnedNew (t' := tk) (ch := [z, TI, TO, i1, i2]) (fun c o hb q => (sb.2 c (fun q' => hb (by simp [q']))).trans (hk c o (fun q' => hb (by simp [q'])) (fun q' => hb (by simp [q'])) (fun q' => hb (by simp [q'])) (fun q' => hb (by simp [q'])) q)) hf (Nat.le_refl _) new
    refine ⟨.ref s.heap.objs.size, _, I1, rfl, ⟨_, x, y, rfl, I.hok.fresh (Nat.le_refl _), rfl, fun l hl => by rw [inv_inj I hl hqx]; exact hx, fun l hl => by rw [inv_inj I hl hqy]; exact hy⟩, ⟨z'', ?_, ⟨v1, v2, ?_⟩, ?_, ?_⟩, fun c hcm => ?_⟩
    · exact (sb.2 _ D.TIz).trans (hk _ _ D.TIz D.TITO D.TIi1 D.TIi2 hTI)
    · exact (sb.2 _ D.TOz).trans TO'
    · exact h1'.1.at fun o q => (sb.2 _ D.zi1.symm).trans q
    · exact h2'.1.at fun o q => (sb.2 _ D.zi2.symm).trans q
    · have hlt : c < s.heap.objs.size := by
        have e' : c = z ∨ c = TI ∨ c = TO ∨ c = i1 ∨ c = i2 := by simpa using hcm
        rcases e' with q | q | q | q | q
        · rw [q]; exact hzl
        · rw [q]; exact Heap.lt_size hTI
        · rw [q]; exact Heap.lt_size hTO
        · rw [q]; obtain ⟨_, e1, _⟩ := h1.obj; exact Heap.lt_size e1
        · rw [q]; obtain ⟨_, e2, _⟩ := h2.obj; exact Heap.lt_size e2
      rw [upd_ne (Nat.ne_of_lt hlt)]
      exact (hf c hcm).1
  done := by
    intro X hP hw hK hc i pins s σ H E I hf st hg
    subst hP hw hK
    obtain ⟨hz, hTI, ⟨x0, y0, hTO⟩, h1, h2⟩ := st
    obtain ⟨xs, ys, hqx, hqy, hend⟩ := hg
    obtain ⟨its, rv, p, _⟩ := inv_seq I hqx
    obtain ⟨its2, rv2, p2, _⟩ := inv_seq I hqy
    have l1 := rv.length
    have l2 := rv2.length
    exact wpAny_pyNext_zipD2_end D (drawsA (A := X.A.in1) (I.ok.hd hc) i1 a1 (seq_ne h1 p) its.toArray b1) (drawsA (A := X.A.in1) (I.ok.hd hc) i2 a2 (seq_ne h2 p2) its2.toArray b2) hz hTI hTO ⟨h1, p⟩ ⟨h2, p2⟩ (by simp; omega) (by simp; omega) (by simp; omega)
      fun h' tk hk => ⟨rfl, I.turnedL (t' := tk) (ch := [z, TI, TO, i1, i2]) (fun c o hb q =>
        hk c o (fun q' => hb (by simp [q'])) (fun q' => hb (by simp [q'])) (fun q' => hb (by simp [q'])) (fun q' => hb (by simp [q'])) q) hf⟩
  self := fun A i s Q E st h => wpAny_pyIter_zip st.1 h
def iZipG (K : PySem.W.Frag) (ta : TA) : TI := fun σ H R => ta σ H fun vs H1 => ∃ a1 a2 xs ys b1 b2, vs = [.ref a1, .ref a2] ∧ SqA K H1 a1 xs b1 ∧ SqA K H1 a2 ys b2 ∧ (xs.length ≤ sizeLine → R (ItzA K b1 b2 a1 a2) H1)
theorem pi_zipG {X : Cx} {e e2 : Expr} {ta : TA} {p pos tpos : Pos} {elts : List Expr} {kk : Nat} (hg : Gl X "zip") (hm : X.mg "zip" = none) (ha : PA X [e, e2] ta)
    (hs : starEach [e, e2] X.env = (false, eval e X.env) :: starEach [e2] X.env) (hpl : (backTo pos (starEach [e2] X.env)).any (·.1) = false) :
    PI X (.Tuple elts kk tpos) (.Call (.Name "zip" p) [e, e2] [] pos) (iZipG X.K ta) := by
  refine ⟨fun pins s σ H R I h => ?_⟩
  refine Call_ (ld_blt I hg hm PyProof.Rows.boot_zip (PyProof.Rows.callWith_type1 (thn (ha.run pos pins s σ H _ I h) fun us s1 ⟨vs, H1, I1, r1, q1⟩ => ?_) hs hpl))
  obtain ⟨a1, a2, xs, ys, b1, b2, rfl, hqx, hqy, q⟩ := q1
  cases r1 with
  | cons r rr =>
    cases rr with
    | cons r' rr =>
      cases rr
      cases r
      cases r'
      obtain ⟨its, rv, p1, hz1⟩ := inv_seq I1 hqx
      obtain ⟨its2, rv2, p2, _⟩ := inv_seq I1 hqy
      have l1 := seq_lt p1
      have l2 := seq_lt p2
      refine zip_begins2 (beginsA a1 its.toArray b1) (beginsA a2 its2.toArray b2) p1 p2 fun h' hz hTI hTO g1 g2 hsz hk => wpAny_pyIter_zip hz ?_
      have I2 : Inv X pins σ H1 { s1 with heap := h' } := I1.kept (t' := s1.toks) hk
      refine ⟨s1.heap.objs.size + 4, [s1.heap.objs.size + 4, s1.heap.objs.size + 2, s1.heap.objs.size + 3, s1.heap.objs.size, s1.heap.objs.size + 1], _, _, H1, rfl, I2, turn_zipA (a1 := a1) (a2 := a2) ?_, ⟨hz, hTI, ⟨_, _, hTO⟩, itSt.new g1, itSt.new g2⟩, fun c hcm => ?_, q hz1⟩
      · have n1 : ∀ k, s1.heap.objs.size + k ≠ a1 := fun k => Nat.ne_of_gt (Nat.lt_of_lt_of_le l1 (Nat.le_add_right _ _))
        have n2 : ∀ k, s1.heap.objs.size + k ≠ a2 := fun k => Nat.ne_of_gt (Nat.lt_of_lt_of_le l2 (Nat.le_add_right _ _))
        have n3 := n1 0
        have n4 := n2 0
        rw [Nat.add_zero] at n3 n4
        constructor <;> simp [n1, n2, n3, n4]
      · have e' : c = s1.heap.objs.size + 4 ∨ c = s1.heap.objs.size + 2 ∨ c = s1.heap.objs.size + 3 ∨ c = s1.heap.objs.size ∨ c = s1.heap.objs.size + 1 := by simpa using hcm
        have hle : s1.heap.objs.size ≤ c := by
          rcases e' with z | z | z | z | z
          · rw [z]; exact Nat.le_add_right _ _
          · rw [z]; exact Nat.le_add_right _ _
          · rw [z]; exact Nat.le_add_right _ _
          · rw [z]; exact Nat.le_refl _
          · rw [z]; exact Nat.le_add_right _ _
        exact I1.fpOk hle (I1.hok.fresh hle)
end DL
/-! DL23: enumerate, zip, reversed at the level of data. -/
namespace DL
open PySem PySem.Spec PyProof.Rows L2
section
variable {X : Cx} {c : Cf} {K : PySem.W.Frag} {IO : Nat → Option Addr} {F G : Addr → Prop} {bad : Addr → Prop} {H H1 H2 H' : Hp} {σ : St} {ρ ρ1 ρ2 : Rho} {v : V} {r : Rs} {E : Xn → Prop}
  {e a b tg : Expr} {es : List Expr} {pos : Pos} {w wa wb wc : DTE} {wr : DTR} {n : Nat}
def TA (K : PySem.W.Frag) (b : Bool) (x : Addr) (xs : List D) : BH := fun bad H => ∃ vs, SqA K H x vs b ∧ DVs K H bad vs xs
def SA (K : PySem.W.Frag) (b : Bool) (x : Addr) (xs : List D) : BH := match b with
  | false => SL K x xs
  | true => ST K x xs
theorem SA.stay {b : Bool} {x : Addr} {xs : List D} : Stay (SA K b x xs) := by cases b; exact SL.stay; exact ST.stay
theorem SA.ta {b : Bool} {x : Addr} {xs : List D} (h : SA K b x xs bad H) : DL.TA K b x xs bad H := by
  cases b
  · exact SL.tl h
  · exact ST.tt h
/-- how a walk goes by what it stands on -/
structure Kd (K : PySem.W.Frag) (J : Bool → Addr → Nat → It) (g : List D → List D) : Prop where
  fd : ∀ b x xs, Fd K (J b x xs.length) (g xs) (DL.TA K b x xs)
  len : ∀ xs, (g xs).length = xs.length
theorem dv_seq {d : D} {xs : List D} (hd : DV K H bad v d) (e : seqD d = some xs) : ∃ x vs b, v = .ref x ∧ SqA K H x vs b ∧ SA K b x xs bad H ∧ vs.length = xs.length := by
  rcases seqD_cases e with rfl | rfl
  · cases hd with
    | lst h1 h2 => exact ⟨_, _, false, rfl, h1.sq, ⟨_, h1, h2⟩, h2.length⟩
  · cases hd with
    | tup h1 h2 => exact ⟨_, _, true, rfl, h1.sq, ⟨_, h1, h2⟩, h2.length⟩
theorem i_seqG {J : Bool → Addr → Nat → It} {g : List D → List D} (kd : Kd c.K J g) (hK : X.K = c.K) (h : PI X tg e (iSeqG X.K J (tD c w))) : PI X tg e (tDI c fun E ρ k => asI w E ρ fun xs ck ρ1 => k (g xs) ck ρ1) := by
  refine h.imp fun σ H R ⟨F, ρ, E, k, rp, hw, xc, kk⟩ => ⟨F, ρ, E, _, rp, hw, xc, fun v H1 ρ1 r n1 ok1 f1 q1 => ?_⟩
  rw [hK]
  dsimp only at q1
  have dat : ∀ d xs ck, DV c.K H1 (Bad F σ ρ1) v d → seqD d = some xs → k (g xs) ck ρ1 → ∃ a ys b, v = .ref a ∧ SqA c.K H1 a ys b ∧ (ys.length ≤ sizeLine → R (J b a ys.length) H1) := fun d xs ck hd e q => by
    obtain ⟨x, vs, b, rfl, h1, h2, h3⟩ := dv_seq hd e
    exact ⟨x, vs, b, rfl, h1, fun hz => by
      rw [h3] at hz ⊢
      exact kk _ _ _ _ _ _ (SA c.K b x xs) n1 ok1.rp' (kd.fd b x xs) SA.stay h2 (fun _ _ _ _ _ _ z _ => SA.ta z) (by rw [kd.len]; exact hz) q⟩
  split at q1
  · rename_i xs ed
    cases r with
    | ref i =>
      have hd := deref_ok ok1.rp' (show R1 c.K H1 (Bad F σ ρ1) σ v (.ref i) from ok1.r1') ed
      obtain ⟨x, vs, rfl, h1, h2⟩ := hd.list
      refine ⟨x, vs, false, rfl, h1, fun hz => ?_⟩
      rw [h2.length] at hz ⊢
      refine kk _ _ _ _ _ (DL.TA c.K false x xs) (fun _ _ => True) n1 ok1.rp' (kd.fd false x xs) (fun _ _ _ _ _ _ => trivial) trivial (fun F2 ρ2 σ2 H2 p2 ag _ ck => ?_) (by rw [kd.len]; exact hz) q1
      have hv : σ[i]? = some (some (V.ref x)) := ok1.r1
      have ck' : deref ρ2 (.ref i) = some (.list xs) := ck
      have hg : ∃ s, gt ρ2 i = some s := by
        simp only [deref] at ck'
        split at ck' <;> first | exact ⟨_, by assumption⟩ | cases ck'
      obtain ⟨s, hs⟩ := hg
      obtain ⟨y, ws, e1, e2, e3⟩ := (deref_ok (v := .ref x) p2 (show R1 c.K H2 (Bad F2 σ2 ρ2) σ2 (.ref x) (.ref i) from (ag i s hs).trans hv) ck').list
      cases e1
      exact ⟨ws, e2, e3⟩
    | dat d' =>
      cases ed
      exact dat _ _ _ ok1.r1' rfl q1
    | own ys =>
      cases ed
      exact dat _ _ _ ok1.r1' rfl q1
  · rename_i xs ed
    split at q1
    · rename_i d'
      cases ed
      exact dat _ _ _ ok1.r1' rfl q1
    · exact q1.elim
  · exact q1.elim
theorem f_seqG {J : Bool → Addr → Nat → It} {g : List D → List D} (kd : Kd c.K J g) (hK : X.K = c.K) (h : PI X tg e (iSeqG X.K J (tD c w))) : PI X tg e (tDF c fun E ρ k => asF w E ρ fun xs ck ρ1 => k (g xs) ck ρ1) := by
  refine h.imp fun σ H R ⟨F, ρ, E, k, rp, hw, xc, kk⟩ => ⟨F, ρ, E, _, rp, hw, xc, fun v H1 ρ1 r n1 ok1 f1 q1 => ?_⟩
  rw [hK]
  obtain ⟨d, ρ2, q2, p2, d2, n2⟩ := esc_ok ok1 q1
  dsimp only at q2
  split at q2
  · rename_i xs es
    obtain ⟨x, vs, b, rfl, h1, h2, h3⟩ := dv_seq d2 es
    exact ⟨x, vs, b, rfl, h1, fun hz => by
      rw [h3] at hz ⊢
      exact kk _ _ _ _ _ (SA c.K b x xs) (n1.trans n2) p2 ((kd.fd b x xs).imp fun _ _ z => SA.ta z) SA.stay h2 (by rw [kd.len]; exact hz) q2⟩
  · exact q2.elim
theorem kd_rev : Kd K (ItvA K) List.reverse where
  len := fun xs => List.length_reverse
  fd := fun b x xs => by
    have rev_at : ∀ {i : Nat} {y : D}, xs.reverse[i]? = some y → i < xs.length ∧ xs[xs.length - 1 - i]? = some y := fun {i y} h => by
      have hi := some_lt h
      rw [List.length_reverse] at hi
      rw [List.getElem?_reverse hi] at h
      exact ⟨hi, h⟩
    have geti : ∀ {H : Hp} {bad : Addr → Prop} {vs : List V} {i : Nat}, DVs K H bad vs xs → i < xs.length → ∃ y, vs[xs.length - 1 - i]? = some y := fun {H bad vs i} h2 hi => get_ex (by rw [h2.length]; omega)
    refine ⟨fun bad H i t hi => ?_, fun bad H t => ?_, fun bad H i v H' y t _ hy y' => ?_⟩
    · rw [List.length_reverse] at hi
      obtain ⟨vs, h1, h2⟩ := t
      obtain ⟨u, hu⟩ := geti h2 hi
      cases b with
      | false => exact ⟨hi, vs, u, h1, hu⟩
      | true => exact ⟨hi, vs, u, h1, hu⟩
    · cases b with
      | false => show _ ≤ _; simp
      | true => show _ ≤ _; simp
    · obtain ⟨vs, h1, h2⟩ := t
      obtain ⟨hi, hy⟩ := rev_at hy
      obtain ⟨w, q1, q2⟩ := h2.get hy
      have e12 : H' = H ∧ ∀ zs, SqA K H x zs b → zs[xs.length - 1 - i]? = some v := by cases b <;> exact y'
      obtain ⟨rfl, e2⟩ := e12
      have := e2 vs h1
      rw [q1] at this; cases this
      exact ⟨fun _ _ e => e, q2⟩
theorem enumD_get {xs : List D} {i : Nat} {y : D} (h : (enumD xs)[i]? = some y) : ∃ x, xs[i]? = some x ∧ y = .tuple [.int i, x] := by
  unfold enumD at h
  rw [List.getElem?_map, List.getElem?_zipIdx] at h
  cases q : xs[i]? with
  | none => rw [q] at h; cases h
  | some x => rw [q] at h; simp at h; exact ⟨x, rfl, h.symm⟩
theorem dv_pair {T : Addr} {x y : V} {dx dy : D} (hb : ∀ a, bad a → H a ≠ none) (hT : H T = none) (hx : DV K H bad x dx) (hy : DV K H bad y dy) : (∀ a o, H a = some o → upd H T (.tup [x, y]) a = some o) ∧ DV K (upd H T (.tup [x, y])) bad (.ref T) (.tuple [dx, dy]) := by
  have up : ∀ a o, H a = some o → upd H T (.tup [x, y]) a = some o := up_new hT
  have k : ∀ a o, H a = some o → ¬ bad a → upd H T (.tup [x, y]) a = some o ∧ ¬ bad a := fun a o e nb => ⟨up a o e, nb⟩
  exact ⟨up, .tup (.inl ⟨.inl upd_same, fun q => hb _ q hT⟩) (.cons (hx.mono k) (.cons (hy.mono k) .nil))⟩
theorem kd_enum : Kd K (IteA K) enumD where
  len := fun xs => by simp [enumD]
  fd := fun b x xs => by
    refine ⟨fun bad H i t hi => ?_, fun bad H t => ?_, fun bad H i v H' y t hb hy y' => ?_⟩
    · obtain ⟨vs, h1, h2⟩ := t
      have hi' : i < xs.length := by simpa [enumD] using hi
      obtain ⟨u, hu⟩ := get_ex (xs := vs) (i := i) (by rw [h2.length]; exact hi')
      exact ⟨vs, u, h1, hu⟩
    · obtain ⟨vs, h1, h2⟩ := t
      exact ⟨vs, h1, by rw [h2.length]; simp [enumD]⟩
    · obtain ⟨vs, h1, h2⟩ := t
      obtain ⟨dx, hx, rfl⟩ := enumD_get hy
      obtain ⟨w, q1, q2⟩ := h2.get hx
      obtain ⟨T, u, rfl, hT, rfl, e2⟩ := y'
      have := e2 vs h1
      rw [q1] at this; cases this
      exact dv_pair hb hT (.int _) q2
theorem zipD_get {xs ys : List D} {i : Nat} {z : D} (h : (zipD xs ys)[i]? = some z) : ∃ x y, xs[i]? = some x ∧ ys[i]? = some y ∧ z = .tuple [x, y] := by
  unfold zipD at h
  rw [List.getElem?_map] at h
  cases q : (xs.zip ys)[i]? with
  | none => rw [q] at h; cases h
  | some p =>
    rw [q] at h
    have := List.getElem?_zip_eq_some.mp q
    simp at h
    exact ⟨p.1, p.2, this.1, this.2, h.symm⟩
theorem fd_zip {b1 b2 : Bool} {x1 x2 : Addr} {xs ys : List D} : Fd K (ItzA K b1 b2 x1 x2) (zipD xs ys) (fun bad H => DL.TA K b1 x1 xs bad H ∧ DL.TA K b2 x2 ys bad H) where
  go := fun bad H i ⟨⟨vs, h1, h2⟩, ⟨ws, h3, h4⟩⟩ hi => by
    have hi' : i < xs.length ∧ i < ys.length := by simpa [zipD, Nat.lt_min] using hi
    obtain ⟨u, hu⟩ := get_ex (xs := vs) (i := i) (by rw [h2.length]; exact hi'.1)
    obtain ⟨u', hu'⟩ := get_ex (xs := ws) (i := i) (by rw [h4.length]; exact hi'.2)
    exact ⟨vs, ws, u, u', h1, h3, hu, hu'⟩
  stop := fun bad H ⟨⟨vs, h1, h2⟩, ⟨ws, h3, h4⟩⟩ => ⟨vs, ws, h1, h3, by rw [h2.length, h4.length]; simp [zipD]⟩
  yld := fun bad H i v H' y ⟨⟨vs, h1, h2⟩, ⟨ws, h3, h4⟩⟩ hb hy y' => by
    obtain ⟨dx, dy, hx, hy', rfl⟩ := zipD_get hy
    obtain ⟨w, q1, q2⟩ := h2.get hx
    obtain ⟨w', q3, q4⟩ := h4.get hy'
    obtain ⟨T, u, u', rfl, hT, rfl, e2, e3⟩ := y'
    have := e2 vs h1
    rw [q1] at this; cases this
    have := e3 ws h3
    rw [q3] at this; cases this
    exact dv_pair hb hT q2 q4
theorem zip_len (xs ys : List D) : (zipD xs ys).length ≤ xs.length := by simp [zipD]; omega
/-- a zip -/
theorem fi_zip (hK : X.K = c.K) (h : PI X tg e (iZipG X.K (tDH c 2 wr))) : PI X tg e (tDI c (zipW wr)) ∧ PI X tg e (tDF c (zipW wr)) := by
  have core : ∀ σ H R (F : Addr → Prop) (ρ : Rho) (E : Xn → Prop) (k : List D → (Rho → Prop) → Rho → Prop), Rp c.K c.IO F H σ ρ → zipW wr E ρ k → XC c F E σ ρ H →
      (∀ J H' ρ' xs (S : BH), Nx σ ρ H σ ρ' H' → Rp c.K c.IO F H' σ ρ' → Fd c.K J xs S → Stay S → S (Bad F σ ρ') H' → xs.length ≤ sizeLine → k xs (fun _ => True) ρ' → R J H') → iZipG X.K (tDH c 2 wr) σ H R := fun σ H R F ρ E k rp hw xc kk => ⟨F, ρ, E, _, rp, hw, xc, fun vs H1 ρ1 rs as hl n1 p1 h1 f1 q1 => by
    obtain ⟨ds, ρ2, q2, p2, d2, n2⟩ := all_esc p1 h1 f1 q1
    split at q2
    · rename_i d d'
      split at q2
      · rename_i xs ys e1 e2
        cases d2 with
        | cons dv1 r1 =>
          cases r1 with
          | cons dv2 r2 =>
            cases r2
            obtain ⟨x, us, b, rfl, g1, g2, g3⟩ := dv_seq dv1 e1
            obtain ⟨y, ws, b', rfl, g4, g5, g6⟩ := dv_seq dv2 e2
            rw [hK]
            refine ⟨x, y, us, ws, b, b', rfl, g1, g4, fun hz => ?_⟩
            exact kk _ _ _ _ (fun bad H => SA c.K b x xs bad H ∧ SA c.K b' y ys bad H) (n1.trans n2) p2 (fd_zip.imp fun _ _ z => ⟨SA.ta z.1, SA.ta z.2⟩) (fun _ _ _ _ z k => ⟨SA.stay _ _ _ _ z.1 k, SA.stay _ _ _ _ z.2 k⟩) ⟨g2, g5⟩ (Nat.le_trans (zip_len xs ys) (by rw [← g3]; exact hz)) q2
      · exact q2.elim
    · exact q2.elim⟩
  exact ⟨h.imp fun σ H R ⟨F, ρ, E, k, rp, hw, xc, kk⟩ => core σ H R F ρ E k rp hw xc fun J H' ρ' xs S n1 p1 fd st s hz q => kk J H' ρ' xs _ S S n1 p1 fd st s (fun _ _ _ _ _ _ z _ => z) hz q,
    h.imp fun σ H R ⟨F, ρ, E, k, rp, hw, xc, kk⟩ => core σ H R F ρ E k rp hw xc fun J H' ρ' xs S n1 p1 fd st s hz q => kk J H' ρ' xs _ S n1 p1 fd st s hz q⟩
theorem d_mono {w : DTE} : ∀ σ H (P Q : VK), (∀ v H', P v H' → Q v H') → tD c w σ H P → tD c w σ H Q := fun σ H P Q h ⟨F, ρ, E, Qd, rp, hw, xc, kk⟩ => ⟨F, ρ, E, Qd, rp, hw, xc, fun v H' ρ' r n1 ok f q => h _ _ (kk v H' ρ' r n1 ok f q)⟩
end
end DL
/-! DL24: l.index(x), tests of chains, list(range(..)). -/
namespace DL
open PySem PySem.Spec PyProof.Rows L2
section
variable {X : Cx} {c : Cf} {K : PySem.W.Frag} {IO : Nat → Option Addr} {F G : Addr → Prop} {bad : Addr → Prop} {H H1 H2 H' : Hp} {σ : St} {ρ ρ1 ρ2 : Rho} {v : V} {r : Rs} {E : Xn → Prop}
  {e a b tg : Expr} {es : List Expr} {pos : Pos} {w wa wb wc : DTE} {wr : DTR} {n : Nat}
theorem d_index (hK : X.K = c.K) (h : PE X e (tBM X.K "list" (rIndexD X.K) (tD c wa) (tCons (tD c wb) tNil))) : PE X e (tD c fun E ρ Q => wa E ρ fun r ρ1 => with1 ρ1 r (fun x0 => isListD x0 = true) ∧ wb E ρ1 fun s ρ2 => with2 ρ2 r s fun x y => match x with
    | .list xs => shp y ∧ shp (.list xs) ∧ match xs.findIdx? (fun z => PyData.eqv z y) with
      | some n => Q (.dat (.int n)) ρ2
      | none => False
    | _ => False) := by
  refine h.imp fun σ H Q ⟨F, ρ, E, Qd, rp, hw, xc, k⟩ => ⟨F, ρ, E, _, rp, hw, xc, fun v H1 ρ1 r n1 ok1 f1 ⟨q0, q1⟩ => ?_⟩
  rw [hK]
  have ty : tyV c.K "list" v H1 := by
    simp only [with1] at q0
    split at q0
    · rename_i x ex
      rw [← deref_rd] at ex
      have hx := deref_ok ok1.rp' ok1.r1' ex
      cases x <;> simp only [isListD] at q0 <;> first | exact absurd q0 (by decide) | skip
      obtain ⟨a, vs, rfl, h1, _⟩ := hx.list
      exact .inl ⟨rfl, vs, h1⟩
    · exact q0.elim
  refine ⟨ty, F, ρ1, E, _, ok1.rp', q1, xc.nx n1, fun u H2 ρ2 s n2 ok2 f2 q2 => ?_⟩
  simp only [with2] at q2
  split at q2
  · rename_i x y ex ey
    rw [← deref_rd] at ex ey
    have hx := deref_ok ok2.rp' ((ok1.r1').nx (fun xs => rd_ne xs) n2) ex
    have hy := deref_ok ok2.rp' ok2.r1' ey
    split at q2
    · rename_i xs
      obtain ⟨s1, s2, q2⟩ := q2
      split at q2
      · rename_i m em
        obtain ⟨a, vs, rfl, h1, h2⟩ := hx.list
        have fi := List.findIdx?_eq_some_iff_getElem.mp em
        obtain ⟨hm, t1, t2⟩ := fi
        refine ⟨a, u, y, xs, m, xs[m], rfl, rfl, hx.dp, hy.dp, s2, s1, List.getElem?_eq_getElem hm, t1, fun j z hj ez => ?_, k _ _ _ _ (n1.trans n2) (.ofDat ok2.rp' (.int _)) (fun _ q => q.elim) q2⟩
        have hj2 : j < xs.length := by omega
        rw [List.getElem?_eq_getElem hj2] at ez
        cases ez
        have := t2 j hj
        simpa using this
      · exact q2.elim
    · exact q2.elim
  · exact q2.elim
theorem t_chain {o o' : C2} {q : Expr} (ha : PE X a (tD c wa)) (hb : PE X b (tD c wb)) (hc : PE X q (tD c wc)) (hK : X.K = c.K) (hu : X.A.units + 65 < cLine) (hm : lastMarks [o.op, o'.op] [b, q] = false) :
    PT X (.Compare a [o.op, o'.op] [b, q] pos) (tDT c (asT fun E ρ Q => wa E ρ fun r ρ1 => wb E ρ1 fun s ρ2 => with2 ρ2 r s fun x y => cmpD o x y fun z =>
      if z = true then wc E ρ2 fun t ρ3 => with2 ρ3 s t fun y' u => cmpD o' y' u fun q => Q (.dat (.bool q)) ρ3
      else Q (.dat (.bool false)) ρ2)) := by
  refine (pt_chain (cmp_ok hu o) (cmp_ok hu o') ha hb hc hm).imp fun σ H Q ⟨F, ρ, E, Qd, rp, hw, xc, k⟩ => ?_
  refine ⟨F, ρ, E, _, rp, hw, xc, fun v H1 ρ1 r n1 ok1 f1 q1 => ?_⟩
  refine ⟨F, ρ1, E, _, ok1.rp', q1, xc.nx n1, fun u H2 ρ2 s n2 ok2 f2 q2 => ?_⟩
  simp only [with2] at q2
  split at q2
  · rename_i x y ex ey
    rw [← deref_rd] at ex ey
    have hx := deref_ok ok2.rp' ((ok1.r1').nx (fun xs => rd_ne xs) n2) ex
    have hy := deref_ok ok2.rp' ok2.r1' ey
    rw [hK]
    refine ⟨_, x, y, _, hx, hy, q2, fun z kz => ⟨z, rfl, ?_⟩⟩
    cases z with
    | false => exact ⟨false, rfl, k _ _ _ (n1.trans n2) ok2.rp' kz⟩
    | true =>
      refine ⟨F, ρ2, E, _, ok2.rp', kz, xc.nx (n1.trans n2), fun w' H3 ρ3 t n3 ok3 f3 q3 => ?_⟩
      split at q3
      · rename_i y' u' ey' eu'
        rw [← deref_rd] at ey' eu'
        have hy' := deref_ok ok3.rp' ((ok2.r1').nx (fun xs => rd_ne xs) n3) ey'
        have hu' := deref_ok ok3.rp' ok3.r1' eu'
        exact ⟨_, y', u', _, hy', hu', q3, fun z' kz' => ⟨z', rfl, k _ _ _ ((n1.trans n2).trans n3) ok3.rp' kz'⟩⟩
      · exact q3.elim
  · exact q2.elim
theorem dvs_rg (K : PySem.W.Frag) (H : Hp) (bad : Addr → Prop) (a b : Int) : DVs K H bad (rgV a b) ((List.range (b - a).toNat).map fun (i : Nat) => PyData.int (a + i)) := by
  have := DVs.of_ints (K := K) (H := H) (bad := bad) ((List.range (b - a).toNat).map fun (i : Nat) => (a + (i : Int)))
  simpa [rgV, List.map_map, Function.comp_def] using this
theorem ownNew {QQ : VK} {p : Addr} {vs : List V} {xs : List D} (p1 : Rp K IO F H σ ρ) (hp : H p = none) (dv : ∀ H bad, DVs K H bad vs xs) (kk : ∀ v H' r, Nx σ ρ H σ ρ H' → RsOk K IO F H' σ ρ v r → (∀ a, fr v r a → H a = none) → r = .own xs → QQ v H') : QQ (.ref p) (upd H p (.lst vs)) := by
  obtain ⟨n, ok⟩ := ResB.ok p1 (ResB.lst (bad := Bad F σ ρ) hp (dv H _))
  exact kk _ _ _ n ok (fun a q => by cases q; exact hp) rfl
theorem d_listR1 (hc : X.calm = true) (hg : Gl X "list") (hm : X.mg "list" = none) (hg' : Gl X "range") (hm' : X.mg "range" = none) {p p2 pos2 : Pos} (ha : PE X a (tD c w)) (hs : starEach [a] X.env = (false, eval a X.env) :: starEach [] X.env)
    (hs2 : starEach [Expr.Call (.Name "range" p2) [a] [] pos2] X.env = (false, eval (Expr.Call (.Name "range" p2) [a] [] pos2) X.env) :: starEach [] X.env) :
    PE X (.Call (.Name "list" p) [.Call (.Name "range" p2) [a] [] pos2] [] pos) (tD c fun E ρ Q => w E ρ fun r ρ1 => withs ρ1 [r] fun ds => rngD ds fun xs => xs.length ≤ 16777216 ∧ Q (.own xs) ρ1) :=
  (pe_listRg hc hg hm (prg_1 hg' hm' ha hs) hs2).imp fun σ H Q ⟨F, ρ, E, Qd, rp, hw, xc, k⟩ => ⟨F, ρ, E, _, rp, hw, xc, fun v H1 ρ1 r n1 ok1 f1 q1 => by
    simp only [withs, derefs] at q1
    split at q1
    · rename_i ds eds
      split at eds
      · rename_i d ds' e1 e2
        cases e2; cases eds
        rw [← deref_rd] at e1
        have dr := deref_ok ok1.rp' ok1.r1' e1
        unfold rngD at q1
        split at q1
        · rename_i m em
          cases em
          obtain rfl := dr.int
          refine ⟨_, rfl, ⟨by omega, by omega, by omega, by omega, by have := q1.2.2.1; simpa using this⟩, fun p hp => ?_⟩
          refine ownNew (QQ := Q) ok1.rp' hp (dvs_rg c.K · · 0 m) fun v' H' r' n2 ok2 f2 e => k v' H' ρ1 r' (n1.trans n2) ok2 (fun a q => n1.fresh (f2 a q)) ?_
          subst e
          simpa using q1.2.2.2
        · rename_i em; cases em
        · exact q1.elim
      · cases eds
    · exact q1.elim⟩
end
end DL
/-! LZ1: zip's next while its last tuple is out, over any two iterators. -/
namespace DL
open PySem PySem.W PySem.Spec PyProof.Rows L2
section
variable {prog : Program} {w : World} {A : Around} {E : Value → Shared → Prop} {s : Shared} {z TI TO T i1 i2 : Addr} {fp1 fp2 : List Addr} {n1 n2 i : Nat} {P1 P2 : Nat → Value → Prop} {St1 St2 : Nat → Heap → Prop} {f : Bool} {oT : Obj}
theorem zh_item {Q : Value → Shared → Prop} (S : ZipSep2 z TI TO i1 i2 fp1 fp2) (D1 : Draws prog w A i1 fp1 n1 P1 St1) (D2 : Draws prog w A i2 fp2 n2 P2 St2)
    (hz : IsZipHeld s.heap z TI TO T f) (hT : s.heap.get? T = some oT) (hTI : IsTupOf2 s.heap TI (.ref i1) (.ref i2)) (st1 : St1 i s.heap) (st2 : St2 i s.heap) (hlt1 : i < n1) (hlt2 : i < n2)
    (hQ : ∀ x1 x2 h' tk, P1 i x1 → P2 i x2 → IsZipHeld h' z TI TO T true → St1 (i + 1) h' → St2 (i + 1) h' → IsTupOf2 h' s.heap.objs.size x1 x2 → h'.objs.size = s.heap.objs.size + 1 →
      (∀ c o, c ≠ z → c ≠ i1 → c ≠ i2 → s.heap.get? c = some o → h'.get? c = some o) → Q (.ref s.heap.objs.size) { s with heap := h', toks := tk }) :
    wpAny (model prog w) A (Builtin.«zip.__next__» ⟨[.ref z], []⟩) (fun fin s' => ∃ v, fin = .done (.ret v) ∧ Q v s') E s := by
  obtain ⟨hp, g, d, tk0, os⟩ := s
  show wpAny _ _ (field (.ref z) 2 >>= _) _ _ _
  refine wpAny_bind (wpAny_field hz rfl (x := .bool false) rfl ?_)
  show wpAny _ _ (field (.ref z) 3 >>= _) _ _ _
  refine wpAny_bind (wpAny_field hz rfl (x := .ref TI) rfl ?_)
  refine wpAny_bind (wpAny_seqItems hTI rfl ?_)
  show wpAny _ _ (Builtin.SmallTypes.ownedTupleIsFree (.ref z) >>= _) _ _ _
  refine wpAny_bind (wpAny_tupleHeld_zip hz hT fun g0 hz0 hs0 => ?_)
  replace hs0 : Heap.SameBut z hp g0 := hs0
  simp only [Bool.false_eq_true, if_false]
  refine wpAny_bind ?_
  rw [← Array.forIn_toList]
  simp only [List.forIn_cons, List.forIn_nil]
  refine wpAny_bind (wpAny_bind (wpAny_holding ?_))
  show wpAny _ _ (Builtin.SmallTypes.nextOf (.ref i1) >>= _) _ _ ⟨g0, g, d, tk0, os⟩
  refine wpAny_bind (D1.item i _ _ _ hlt1 (D1.over st1 hs0 S.zf1) fun x1 p1 tk1 hx1 sn1 hp1 => wpAny_pure ?_)
  replace hp1 : Heap.SameBut i1 g0 p1 := hp1
  refine wpAny_pure ?_
  refine wpAny_bind (wpAny_bind (wpAny_holding ?_))
  show wpAny _ _ (Builtin.SmallTypes.nextOf (.ref i2) >>= _) _ _ ⟨p1, g, d, tk1, os⟩
  refine wpAny_bind (D2.item i _ _ _ hlt2 (D2.over (D2.over st2 hs0 S.zf2) hp1 S.sep1_2) fun x2 p2 tk2 hx2 sn2 hp2 => wpAny_pure ?_)
  replace hp2 : Heap.SameBut i2 p1 p2 := hp2
  refine wpAny_pure (wpAny_pure ?_)
  show wpAny _ _ (newTuple [x1, x2] >>= _) _ _ _
  refine wpAny_bind (wpAny_newTuple ?_)
  have hsz : p2.objs.size = hp.objs.size := by rw [hp2.1, hp1.1, hs0.1]
  have hzz : IsZipHeld p2 z TI TO T true := hp2.extBut _ _ S.zi2 (hp1.extBut _ _ S.zi1 hz0)
  have hkk : ∀ c o, c ≠ z → c ≠ i1 → c ≠ i2 → hp.get? c = some o → p2.get? c = some o := fun c o cz c1 c2 e => hp2.extBut _ _ c2 (hp1.extBut _ _ c1 (hs0.extBut _ _ cz e))
  have hj1 : St1 (i + 1) p2 := D1.over sn1 hp2 S.sep2_1
  refine wpAny_pure ⟨_, rfl, ?_⟩
  show Q (.ref p2.objs.size) ⟨p2.push { cls := .type "tuple", data := .seq #[x1, x2] }, g, d, tk2, os⟩
  rw [hsz]
  refine hQ x1 x2 _ tk2 hx1 hx2 (Heap.get?_push_of_some _ hzz) (D1.frame _ _ _ hj1 fun b hb o e => Heap.get?_push_of_some _ e) (D2.frame _ _ _ sn2 fun b hb o e => Heap.get?_push_of_some _ e) ?_ ?_ fun c o cz c1 c2 e => Heap.get?_push_of_some _ (hkk c o cz c1 c2 e)
  · rw [← hsz]; exact Heap.get?_push_size _ rfl
  · show (p2.push _).objs.size = hp.objs.size + 1
    rw [Heap.size_push, hsz]
theorem zh_done {Q : Fin → Shared → Prop} (S : ZipSep2 z TI TO i1 i2 fp1 fp2) (D1 : Draws prog w A i1 fp1 n1 P1 St1) (D2 : Draws prog w A i2 fp2 n2 P2 St2)
    (hz : IsZipHeld s.heap z TI TO T f) (hT : s.heap.get? T = some oT) (hTI : IsTupOf2 s.heap TI (.ref i1) (.ref i2)) (st1 : St1 i s.heap) (st2 : St2 i s.heap) (hle1 : i ≤ n1) (hle2 : i ≤ n2) (hend : i = n1 ∨ i = n2)
    (hE : ∀ h' tk e, (∀ c o, c ≠ z → c ≠ i1 → c ≠ i2 → s.heap.get? c = some o → h'.get? c = some o) → (∃ o, h'.get? e = some o ∧ o.cls = .type "StopIteration") → E (.ref e) { s with heap := h', toks := tk }) :
    wpAny (model prog w) A (Builtin.«zip.__next__» ⟨[.ref z], []⟩) Q E s := by
  obtain ⟨hp, g, d, tk0, os⟩ := s
  show wpAny _ _ (field (.ref z) 2 >>= _) _ _ _
  refine wpAny_bind (wpAny_field hz rfl (x := .bool false) rfl ?_)
  show wpAny _ _ (field (.ref z) 3 >>= _) _ _ _
  refine wpAny_bind (wpAny_field hz rfl (x := .ref TI) rfl ?_)
  refine wpAny_bind (wpAny_seqItems hTI rfl ?_)
  show wpAny _ _ (Builtin.SmallTypes.ownedTupleIsFree (.ref z) >>= _) _ _ _
  refine wpAny_bind (wpAny_tupleHeld_zip hz hT fun g0 hz0 hs0 => ?_)
  replace hs0 : Heap.SameBut z hp g0 := hs0
  simp only [Bool.false_eq_true, if_false]
  refine wpAny_bind ?_
  rw [← Array.forIn_toList]
  simp only [List.forIn_cons, List.forIn_nil]
  refine wpAny_bind (wpAny_bind (wpAny_holding ?_))
  show wpAny _ _ (Builtin.SmallTypes.nextOf (.ref i1) >>= _) _ _ ⟨g0, g, d, tk0, os⟩
  by_cases hlt1 : i < n1
  · refine wpAny_bind (D1.item i _ _ _ hlt1 (D1.over st1 hs0 S.zf1) fun x1 p1 tk1 hx1 sn1 hp1 => wpAny_pure ?_)
    replace hp1 : Heap.SameBut i1 g0 p1 := hp1
    refine wpAny_pure ?_
    have hi2 : i = n2 := by omega
    refine wpAny_bind (wpAny_bind (wpAny_holding ?_))
    show wpAny _ _ (Builtin.SmallTypes.nextOf (.ref i2) >>= _) _ _ ⟨p1, g, d, tk1, os⟩
    refine wpAny_bind (D2.done ⟨p1, g, d, tk1, os⟩ _ _ (by rw [← hi2]; exact (D2.over (D2.over st2 hs0 S.zf2) hp1 S.sep1_2)) fun q e hq he => ?_)
    replace hq : Heap.ExtBut i2 p1 q := hq
    exact hE q tk1 e (fun c o cz c1 c2 x => hq _ _ c2 (hp1.extBut _ _ c1 (hs0.extBut _ _ cz x))) he
  · have hi1 : i = n1 := by omega
    refine wpAny_bind (D1.done ⟨g0, g, d, tk0, os⟩ _ _ (by rw [← hi1]; exact (D1.over st1 hs0 S.zf1)) fun q e hq he => ?_)
    replace hq : Heap.ExtBut i1 g0 q := hq
    exact hE q tk0 e (fun c o cz c1 c2 x => hq _ _ c1 (hs0.extBut _ _ cz x)) he
theorem zp_item {Q : Option Value → Shared → Prop} (S : ZipSep2 z TI TO i1 i2 fp1 fp2) (D1 : Draws prog w A.in1 i1 fp1 n1 P1 St1) (D2 : Draws prog w A.in1 i2 fp2 n2 P2 St2)
    (hz : IsZipHeld s.heap z TI TO T f) (hT : s.heap.get? T = some oT) (hTI : IsTupOf2 s.heap TI (.ref i1) (.ref i2)) (st1 : St1 i s.heap) (st2 : St2 i s.heap) (hlt1 : i < n1) (hlt2 : i < n2)
    (hQ : ∀ x1 x2 h' tk, P1 i x1 → P2 i x2 → IsZipHeld h' z TI TO T true → St1 (i + 1) h' → St2 (i + 1) h' → IsTupOf2 h' s.heap.objs.size x1 x2 → h'.objs.size = s.heap.objs.size + 1 →
      (∀ c o, c ≠ z → c ≠ i1 → c ≠ i2 → s.heap.get? c = some o → h'.get? c = some o) → Q (some (.ref s.heap.objs.size)) { s with heap := h', toks := tk }) :
    wpAny (model prog w) A (pyNext (.ref z)) Q E s := by
  have hTy : s.TypeIs (.ref z) "zip" := ⟨_, hz, rfl⟩
  unfold pyNext
  exact wpAny_bind (wpAny_attempt (wpAny_callSpecial?_slot (name := Str.ofString "__next__") hTy F.slot_zip_next
    (wpAny_call_entry F.slot_zip_next hTy F.entry_zip_next
      (zh_item S D1 D2 hz hT hTI st1 st2 hlt1 hlt2 fun x1 x2 h' tk y1 y2 b1 d1 d2 b5 b6 b7 => wpAny_pure (hQ x1 x2 h' tk y1 y2 b1 d1 d2 b5 b6 b7)) (F.args_zip_next_1 _))))
theorem zp_done {Q : Option Value → Shared → Prop} (S : ZipSep2 z TI TO i1 i2 fp1 fp2) (D1 : Draws prog w A.in1 i1 fp1 n1 P1 St1) (D2 : Draws prog w A.in1 i2 fp2 n2 P2 St2)
    (hz : IsZipHeld s.heap z TI TO T f) (hT : s.heap.get? T = some oT) (hTI : IsTupOf2 s.heap TI (.ref i1) (.ref i2)) (st1 : St1 i s.heap) (st2 : St2 i s.heap) (hle1 : i ≤ n1) (hle2 : i ≤ n2) (hend : i = n1 ∨ i = n2)
    (hQ : ∀ h' tk, (∀ c o, c ≠ z → c ≠ i1 → c ≠ i2 → s.heap.get? c = some o → h'.get? c = some o) → Q none { s with heap := h', toks := tk }) : wpAny (model prog w) A (pyNext (.ref z)) Q E s := by
  have hTy : s.TypeIs (.ref z) "zip" := ⟨_, hz, rfl⟩
  unfold pyNext
  refine wpAny_bind (wpAny_attempt (wpAny_callSpecial?_slot (name := Str.ofString "__next__") hTy F.slot_zip_next
    (wpAny_call_entry F.slot_zip_next hTy F.entry_zip_next (zh_done S D1 D2 hz hT hTI st1 st2 hle1 hle2 hend fun h' tk e hk he => ?_) (F.args_zip_next_1 _))))
  obtain ⟨o, ho, hc⟩ := he
  refine wpAny_bind (wpAny_isInstance (T := "StopIteration") (b := true) ⟨o, ho, hc⟩ isSubtype_stop ?_)
  exact wpAny_pure (hQ _ _ hk)
end
end DL
/-! LZ2: a list drawn from a zip. -/
namespace DL
open PySem PySem.W PySem.Spec PyProof.Rows L2
/-- the pairs drawn till now -/
structure ZG (P1 P2 : Nat → Value → Prop) (lo : Addr) (h : Heap) (as : List Addr) : Prop where
  rise : as.Pairwise (· < ·)
  above : ∀ a ∈ as, lo < a
  pairs : ∀ (j : Nat) (a : Addr), as[j]? = some a → ∃ v1 v2, P1 j v1 ∧ P2 j v2 ∧ IsTupOf2 h a v1 v2
theorem ZG.there {P1 P2 : Nat → Value → Prop} {lo : Addr} {h : Heap} {as : List Addr} (g : ZG P1 P2 lo h as) {a : Addr} (ha : a ∈ as) : a < h.objs.size := by
  obtain ⟨j, hj⟩ := List.mem_iff_getElem?.mp ha
  obtain ⟨_, _, _, _, e⟩ := g.pairs j a hj
  exact Heap.lt_size e
/-- the zip's own state -/
def ZSt (z TI TO : Addr) (as : List Addr) (h : Heap) : Prop := (IsZip h z TI TO .none ∧ ∃ x y, IsTupOf2 h TO x y) ∨ ∃ T f, T ∈ as ∧ IsZipHeld h z TI TO T f
section
variable {prog : Program} {w : World} {A : Around} {E : Value → Shared → Prop} {s : Shared} {z TI TO i1 i2 : Addr} {fp1 fp2 : List Addr} {n1 n2 n i : Nat} {P1 P2 : Nat → Value → Prop} {St1 St2 : Nat → Heap → Prop} {as : List Addr}
theorem zl_item {lo : Addr} {Q : Option Value → Shared → Prop} (S : ZipSep2 z TI TO i1 i2 fp1 fp2) (D1 : Draws prog w A.in1 i1 fp1 n1 P1 St1) (D2 : Draws prog w A.in1 i2 fp2 n2 P2 St2)
    (hz : ZSt z TI TO as s.heap) (hG : ZG P1 P2 lo s.heap as) (hTI : IsTupOf2 s.heap TI (.ref i1) (.ref i2)) (st1 : St1 i s.heap) (st2 : St2 i s.heap) (hlt1 : i < n1) (hlt2 : i < n2)
    (hQ : ∀ x1 x2 h' tk f, P1 i x1 → P2 i x2 → IsZipHeld h' z TI TO s.heap.objs.size f → St1 (i + 1) h' → St2 (i + 1) h' → IsTupOf2 h' s.heap.objs.size x1 x2 → h'.objs.size = s.heap.objs.size + 1 →
      (∀ c o, c ≠ z → c ≠ TO → c ≠ i1 → c ≠ i2 → s.heap.get? c = some o → h'.get? c = some o) → Q (some (.ref s.heap.objs.size)) { s with heap := h', toks := tk })
    (hQ2 : ∀ T x1 x2 h' tk f, T ∈ as → P1 i x1 → P2 i x2 → IsZipHeld h' z TI TO T f → St1 (i + 1) h' → St2 (i + 1) h' → IsTupOf2 h' s.heap.objs.size x1 x2 → h'.objs.size = s.heap.objs.size + 1 →
      (∀ c o, c ≠ z → c ≠ TO → c ≠ i1 → c ≠ i2 → s.heap.get? c = some o → h'.get? c = some o) → Q (some (.ref s.heap.objs.size)) { s with heap := h', toks := tk }) :
    wpAny (model prog w) A (pyNext (.ref z)) Q E s := by
  rcases hz with ⟨hz, x, y, hTO⟩ | ⟨T, f, hT, hz⟩
  · exact wpAny_pyNext_zipD2_item S D1 D2 hz hTI hTO st1 st2 hlt1 hlt2 fun x1 x2 h' tk y1 y2 b1 b2 d1 d2 b5 b6 b7 => hQ x1 x2 h' tk false y1 y2 b1 d1 d2 b5 b6 b7
  · obtain ⟨j, hj⟩ := List.mem_iff_getElem?.mp hT
    obtain ⟨_, _, _, _, e⟩ := hG.pairs j T hj
    exact zp_item S D1 D2 hz e hTI st1 st2 hlt1 hlt2 fun x1 x2 h' tk y1 y2 b1 d1 d2 b5 b6 b7 => hQ2 T x1 x2 h' tk true hT y1 y2 b1 d1 d2 b5 b6 fun c o c1 _ c2 c3 => b7 c o c1 c2 c3
theorem zl_done {lo : Addr} {Q : Option Value → Shared → Prop} (S : ZipSep2 z TI TO i1 i2 fp1 fp2) (D1 : Draws prog w A.in1 i1 fp1 n1 P1 St1) (D2 : Draws prog w A.in1 i2 fp2 n2 P2 St2)
    (hz : ZSt z TI TO as s.heap) (hG : ZG P1 P2 lo s.heap as) (hTI : IsTupOf2 s.heap TI (.ref i1) (.ref i2)) (st1 : St1 i s.heap) (st2 : St2 i s.heap) (hle1 : i ≤ n1) (hle2 : i ≤ n2) (hend : i = n1 ∨ i = n2)
    (hQ : ∀ h' tk, (∀ c o, c ≠ z → c ≠ TO → c ≠ i1 → c ≠ i2 → s.heap.get? c = some o → h'.get? c = some o) → Q none { s with heap := h', toks := tk }) : wpAny (model prog w) A (pyNext (.ref z)) Q E s := by
  rcases hz with ⟨hz, x, y, hTO⟩ | ⟨T, f, hT, hz⟩
  · exact wpAny_pyNext_zipD2_end S D1 D2 hz hTI hTO st1 st2 hle1 hle2 hend hQ
  · obtain ⟨j, hj⟩ := List.mem_iff_getElem?.mp hT
    obtain ⟨_, _, _, _, e⟩ := hG.pairs j T hj
    exact zp_done S D1 D2 hz e hTI st1 st2 hle1 hle2 hend fun h' tk k => hQ h' tk fun c o c1 _ c2 c3 => k c o c1 c2 c3
end
section
variable {prog : Program} {w : World} {A : Around} {R : Result → Shared → Prop} {z TI TO i1 i2 : Addr} {fp1 fp2 : List Addr} {n1 n2 n : Nat} {P1 P2 : Nat → Value → Prop} {St1 St2 : Nat → Heap → Prop}
theorem zl_loop {L : Addr} (S : ZipSep2 z TI TO i1 i2 fp1 fp2) (D1 : Draws prog w A.in1.in1 i1 fp1 n1 P1 St1) (D2 : Draws prog w A.in1.in1 i2 fp2 n2 P2 St2) (hn1 : n ≤ n1) (hn2 : n ≤ n2) (hne : n = n1 ∨ n = n2) (hn : n ≤ sizeLine) (res : Value)
    (hL : ∀ b, b = z ∨ b = TI ∨ b = TO ∨ b ∈ fp1 ∨ b ∈ fp2 → b < L) {s₁ : Shared}
    (hR : ∀ h' tk acc c as, (∀ b o, b ≠ L → b ≠ z → b ≠ TO → b ≠ i1 → b ≠ i2 → s₁.heap.get? b = some o → h'.get? b = some o) → h'.get? L = some { cls := .type "list", dict := none, data := .seq acc c, slots := #[] } → as.length = n → ZG P1 P2 L h' as →
      acc.toList = as.map Value.ref → R (.ok (.ret res)) { s₁ with heap := h', toks := tk }) :
    ∀ (k i : Nat) (h : Heap) (tk c : Nat) (acc : Array Value) (as : List Addr), n - i = k → i ≤ n → ZSt z TI TO as h → ZG P1 P2 L h as → IsTupOf2 h TI (.ref i1) (.ref i2) → St1 i h → St2 i h →
      (∀ b o, b ≠ L → b ≠ z → b ≠ TO → b ≠ i1 → b ≠ i2 → s₁.heap.get? b = some o → h.get? b = some o) →
      h.get? L = some { cls := .type "list", dict := none, data := .seq acc c, slots := #[] } → acc.toList = as.map Value.ref → as.length = i →
      codeAny (model prog w) A (.builtin "list.extend.loop" ⟨[.ref L, .ref z, res], []⟩) R { s₁ with heap := h, toks := tk } := by
  have lz := hL z (by simp)
  have lTI := hL TI (by simp)
  have lTO := hL TO (by simp)
  have l1 := hL i1 (by simp [S.mem1])
  have l2 := hL i2 (by simp [S.mem2])
  intro k
  induction k with
  | zero =>
    intro i h tk c acc as hk hi hst hG hTI st1 st2 hkeep hS hacc hal
    have hin : i = n := by omega
    subst hin
    refine codeAny_builtin PySem.F.entry_extend_loop ?_
    rw [Around.under_plainId PySem.F.plain_extend_loop _]
    show wpAny _ A.in1 (pyNext (.ref z) >>= _) _ _ _
    refine wpAny_bind (zl_done (s := { s₁ with heap := h, toks := tk }) (A := A.in1) S D1 D2 hst hG hTI st1 st2 hn1 hn2 hne fun h' tk' he => ?_)
    dsimp only at he ⊢
    refine wpAny_pure (hR h' tk' acc c as (fun b o h1 h2 h3 h4 h5 e => he b o h2 h3 h4 h5 (hkeep b o h1 h2 h3 h4 h5 e)) (he L _ (Nat.ne_of_gt lz) (Nat.ne_of_gt lTO) (Nat.ne_of_gt l1) (Nat.ne_of_gt l2) hS) hal ⟨hG.rise, hG.above, fun j a hj => ?_⟩ hacc)
    obtain ⟨v1, v2, q1, q2, e3⟩ := hG.pairs j a hj
    have ab := hG.above a (List.mem_of_getElem? hj)
    exact ⟨v1, v2, q1, q2, he a _ (Nat.ne_of_gt (Nat.lt_trans lz ab)) (Nat.ne_of_gt (Nat.lt_trans lTO ab)) (Nat.ne_of_gt (Nat.lt_trans l1 ab)) (Nat.ne_of_gt (Nat.lt_trans l2 ab)) e3⟩
  | succ k ih =>
    intro i h tk c acc as hk hi hst hG hTI st1 st2 hkeep hS hacc hal
    have hlt : i < n := by omega
    have hsz : acc.size = i := by rw [← Array.length_toList, hacc, List.length_map, hal]
    have hLl : L < h.objs.size := Heap.lt_size hS
    have step : ∀ (T : Addr) (as' : List Addr) x1 x2 h' tk' f, T ∈ as ++ [h.objs.size] → P1 i x1 → P2 i x2 → IsZipHeld h' z TI TO T f → St1 (i + 1) h' → St2 (i + 1) h' → IsTupOf2 h' h.objs.size x1 x2 → h'.objs.size = h.objs.size + 1 →
        (∀ c o, c ≠ z → c ≠ TO → c ≠ i1 → c ≠ i2 → h.get? c = some o → h'.get? c = some o) →
        wpAny (model prog w) A.in1 (updateSeq L (·.push (Value.ref h.objs.size)) >>= fun _ => again (.builtin "list.extend.loop" ⟨[.ref L, .ref z, res], []⟩)) (fun fin s' => match fin with | .done f => R (.ok f) s' | .again c' => c'.quiet = true ∧ codeAny (model prog w) A c' R s') (fun e s' => R (.error e) s') { s₁ with heap := h', toks := tk' } := by
      intro T as' x1 x2 h' tk' f hT q1 q2 hz' d1 d2 ht hz hkp
      have hS' := hkp L _ (Nat.ne_of_gt lz) (Nat.ne_of_gt lTO) (Nat.ne_of_gt l1) (Nat.ne_of_gt l2) hS
      have up : ∀ b o, b ≠ L → h'.get? b = some o → (h'.update L (Obj.mapSeq (·.push (Value.ref h.objs.size)))).get? b = some o := fun b o hb e => (Heap.get?_update_other _ _ (Ne.symm hb)).trans e
      refine wpAny_bind ?_
      refine wpAny_updateSeq hS' rfl (wpAny_pure ⟨plainId_quiet PySem.F.plain_extend_loop _, ih (i + 1) _ tk' _ (acc.push (Value.ref h.objs.size)) (as ++ [h.objs.size]) (by omega) hlt (.inr ⟨T, f, hT, up _ _ (Nat.ne_of_lt lz) hz'⟩) ⟨?_, ?_, ?_⟩
        (up _ _ (Nat.ne_of_lt lTI) (hkp TI _ S.TIz S.TITO S.TIi1 S.TIi2 hTI)) (D1.frame _ _ _ d1 fun b hb o e => up b o (Nat.ne_of_lt (hL b (by simp [hb]))) e) (D2.frame _ _ _ d2 fun b hb o e => up b o (Nat.ne_of_lt (hL b (by simp [hb]))) e)
        (fun b o h1 h2 h3 h4 h5 e => up b o h1 (hkp b o h2 h3 h4 h5 (hkeep b o h1 h2 h3 h4 h5 e))) (Heap.get?_update_self _ hS' rfl) (by rw [Array.toList_push, hacc, List.map_append]; rfl) (by rw [List.length_append, hal]; rfl)⟩) (by rw [hsz]; omega) (by show (acc.push (Value.ref h.objs.size)).size ≤ sizeLine + 1; rw [Array.size_push, hsz]; omega)
      · refine List.pairwise_append.mpr ⟨hG.rise, List.pairwise_singleton _ _, fun a ha b hb => ?_⟩
        rw [List.mem_singleton.mp hb]
        exact hG.there ha
      · intro a ha
        rcases List.mem_append.mp ha with ha | ha
        · exact hG.above a ha
        · rw [List.mem_singleton.mp ha]; exact hLl
      · intro j b hj
        rcases Nat.lt_trichotomy j as.length with e1 | e1 | e1
        · rw [List.getElem?_append_left e1] at hj
          obtain ⟨v1, v2, p1, p2, e3⟩ := hG.pairs j b hj
          have hb := hG.above b (List.mem_of_getElem? hj)
          exact ⟨v1, v2, p1, p2, up b _ (Nat.ne_of_gt hb) (hkp b _ (Nat.ne_of_gt (Nat.lt_trans lz hb)) (Nat.ne_of_gt (Nat.lt_trans lTO hb)) (Nat.ne_of_gt (Nat.lt_trans l1 hb)) (Nat.ne_of_gt (Nat.lt_trans l2 hb)) e3)⟩
        · subst e1
          have hb : h.objs.size = b := by simpa using hj
          subst hb
          subst hal
          exact ⟨x1, x2, q1, q2, up _ _ (Nat.ne_of_gt hLl) ht⟩
        · have hnone : (as ++ [h.objs.size])[j]? = none := List.getElem?_eq_none (by rw [List.length_append, List.length_singleton]; omega)
          rw [hnone] at hj; cases hj
    refine codeAny_builtin PySem.F.entry_extend_loop ?_
    rw [Around.under_plainId PySem.F.plain_extend_loop _]
    show wpAny _ A.in1 (pyNext (.ref z) >>= _) _ _ _
    refine wpAny_bind (zl_item (s := { s₁ with heap := h, toks := tk }) (A := A.in1) S D1 D2 hst hG hTI st1 st2 (by omega) (by omega) (fun x1 x2 h' tk' f a1 a2 a3 a4 a5 a6 a7 a8 => ?_) fun T x1 x2 h' tk' f hT a1 a2 a3 a4 a5 a6 a7 a8 => ?_)
    · exact step h.objs.size as x1 x2 h' tk' f (by simp) a1 a2 a3 a4 a5 a6 a7 a8
    · exact step T as x1 x2 h' tk' f (List.mem_append_left _ hT) a1 a2 a3 a4 a5 a6 a7 a8
end
end DL
/-! LZ3: list(z), z a zip. -/
namespace DL
open PySem PySem.W PySem.Spec PyProof.Rows L2
theorem nolen_zip : typeLookup (.type "zip") "__len__" = pure none := by rw [typeLookup_type, builtinLookup_eq_fast]; kernel_rfl
theorem nohint_zip : typeLookup (.type "zip") "__length_hint__" = pure none := by rw [typeLookup_type, builtinLookup_eq_fast]; kernel_rfl
section
variable {prog : Program} {w : World} {A : Around} {E : Value → Shared → Prop} {s : Shared} {z TI TO i1 i2 : Addr} {fp1 fp2 : List Addr} {n1 n2 n : Nat} {P1 P2 : Nat → Value → Prop} {St1 St2 : Nat → Heap → Prop}
theorem zl_call {x y : Value} {Q : Value → Shared → Prop} (S : ZipSep2 z TI TO i1 i2 fp1 fp2) (D1 : Draws prog w A.in1.in1.in1 i1 fp1 n1 P1 St1) (D2 : Draws prog w A.in1.in1.in1 i2 fp2 n2 P2 St2) (hn1 : n ≤ n1) (hn2 : n ≤ n2) (hne : n = n1 ∨ n = n2) (hn : n ≤ sizeLine)
    (hL : ∀ b, b = z ∨ b = TI ∨ b = TO ∨ b ∈ fp1 ∨ b ∈ fp2 → b < s.heap.objs.size) (hz : IsZip s.heap z TI TO .none) (hTI : IsTupOf2 s.heap TI (.ref i1) (.ref i2)) (hTO : IsTupOf2 s.heap TO x y) (st1 : St1 0 s.heap) (st2 : St2 0 s.heap)
    (hQ : ∀ h' tk acc c as, (∀ b o, b ≠ z → b ≠ TO → b ≠ i1 → b ≠ i2 → s.heap.get? b = some o → h'.get? b = some o) → h'.get? s.heap.objs.size = some { cls := .type "list", dict := none, data := .seq acc c, slots := #[] } → as.length = n → ZG P1 P2 s.heap.objs.size h' as →
      acc.toList = as.map Value.ref → Q (.ref s.heap.objs.size) { s with heap := h', toks := tk }) :
    wpAny (model prog w) A (call (.type "list") [.ref z]) Q E s := by
  have lz := hL z (by simp)
  have lTI := hL TI (by simp)
  have lTO := hL TO (by simp)
  refine callType_codes (Q₁ := fun obj s₁ => obj = .ref s.heap.objs.size ∧ s₁ = { s with heap := s.heap.push { cls := .type "list", data := .seq #[] } }) PySem.F.called_list (PySem.F.typeCall_list_1 _) PySem.F.entry_list_init
    (code_list_new _ ⟨rfl, rfl⟩) fun obj s₁ h₁ => ?_
  obtain ⟨rfl, rfl⟩ := h₁
  have hS : (s.heap.push { cls := .type "list", data := .seq #[] }).get? s.heap.objs.size = some { cls := .type "list", data := .seq #[] } := Heap.get?_push_size _ rfl
  refine ⟨⟨_, hS, rfl⟩, PySem.F.args_list_init_2 _ _, ?_⟩
  show wpAny _ A.in1.in1 (do let old ← Builtin.List.listItems (.ref s.heap.objs.size); Builtin.List.listUpdate (.ref s.heap.objs.size) (fun _ => #[]); letGo old.toList.reverse; Builtin.List.listExtendWith (.ref s.heap.objs.size) (.ref z) .none) _ _ _
  refine wpAny_bind ?_
  unfold Builtin.List.listItems
  refine wpAny_bind (wpAny_seqItems hS rfl (wpAny_pure ?_))
  show wpAny _ A.in1.in1 (updateSeq s.heap.objs.size (fun _ => #[]) >>= fun _ => letGo (#[] : Array Value).toList.reverse >>= fun _ => Builtin.List.listExtendWith (.ref s.heap.objs.size) (.ref z) .none) _ _ _
  refine wpAny_bind (wpAny_updateSeq hS rfl ?_)
  have hS2 := Heap.get?_update_self (Obj.mapSeq (fun _ => (#[] : Array Value))) hS rfl
  refine wpAny_bind (wpAny_letGo ?_)
  unfold Builtin.List.listExtendWith
  have up : ∀ (h : Heap) (f : Obj → Obj), (∀ b o, s.heap.get? b = some o → h.get? b = some o) → ∀ b o, s.heap.get? b = some o → (h.update s.heap.objs.size f).get? b = some o := fun h f q b o e =>
    (Heap.get?_update_other _ _ (Ne.symm (Nat.ne_of_lt (Heap.lt_size e)))).trans (q b o e)
  have k1 : ∀ b o, s.heap.get? b = some o → (s.heap.push { cls := .type "list", data := .seq #[] }).get? b = some o := fun b o e => Heap.get?_push_of_some _ e
  have k2 := up _ (Obj.mapSeq (fun _ => (#[] : Array Value))) k1
  have zty : ∀ {h : Heap} {tk : Nat}, (∀ b o, s.heap.get? b = some o → h.get? b = some o) → ({ s with heap := h, toks := tk } : Shared).TypeIs (.ref z) "zip" := fun {h} {tk} q => ⟨_, q _ _ hz, rfl⟩
  refine wpAny_bind (wpAny_typeOf (zty k2) ?_)
  have h1 : Builtin.List.listSameRef (.ref s.heap.objs.size) (.ref z) = false := by simp [Builtin.List.listSameRef, Nat.ne_of_gt lz]
  have h2 : (Value.type "zip" == Value.type "list") = false := by decide
  have h3 : (Value.type "zip" == Value.type "tuple") = false := by decide
  simp only [h1, h2, h3, Bool.or_false, Bool.false_eq_true, if_false]
  refine wpAny_bind (wpAny_pyIter_zip (s := { s with heap := _ }) (k2 _ _ hz) ?_)
  refine wpAny_bind (wpAny_holding ?_)
  unfold Builtin.List.listLengthHint
  refine wpAny_bind (wpAny_specialOf (zty k2) nolen_zip ?_)
  show wpAny _ A.in1.in1 (specialOf (Value.ref z) (Str.ofString "__length_hint__") >>= _) _ _ _
  refine wpAny_bind (wpAny_specialOf (zty k2) nohint_zip ?_)
  refine wpAny_pure ?_
  show wpAny _ A.in1.in1 (rule "list.extend.makes-room" >>= fun _ => Builtin.List.listTouch (.ref s.heap.objs.size) >>= fun _ =>
    again (.builtin "list.extend.loop" ⟨[.ref s.heap.objs.size, .ref z, .none], []⟩)) _ _ _
  refine wpAny_bind (wpAny_rule ?_)
  refine wpAny_bind ?_
  show wpAny _ A.in1.in1 (updateSeq s.heap.objs.size (·.push .none) >>= fun _ => updateSeq s.heap.objs.size (·.pop)) _ _ _
  refine wpAny_bind (wpAny_updateSeq hS2 rfl ?_)
  have hS3 := Heap.get?_update_self (Obj.mapSeq (·.push Value.none)) hS2 rfl
  refine wpAny_updateSeq (hz := by seq_fits) hS3 rfl ?_
  have hS4 := Heap.get?_update_self (Obj.mapSeq (·.pop)) hS3 rfl
  have k4 := up _ (Obj.mapSeq (·.pop)) (up _ (Obj.mapSeq (·.push Value.none)) k2)
  refine wpAny_pure ⟨plainId_quiet PySem.F.plain_extend_loop _, ?_⟩
  refine zl_loop (A := A.in1) (s₁ := s) S D1 D2 hn1 hn2 hne hn .none hL (fun h' tk acc c as q1 q2 q3 q4 q5 => ⟨rfl, hQ h' tk acc c as (fun b o a1 a2 a3 a4 e => q1 b o (Nat.ne_of_lt (Heap.lt_size e)) a1 a2 a3 a4 e) q2 q3 q4 q5⟩)
    n 0 _ _ _ #[] [] (Nat.sub_zero _) (Nat.zero_le _) (.inl ⟨k4 _ _ hz, x, y, k4 _ _ hTO⟩) ⟨List.Pairwise.nil, (fun _ ha => nomatch ha), (fun j a hj => by simp at hj)⟩ (k4 _ _ hTI) (D1.frame _ _ _ st1 fun b _ o e => k4 b o e) (D2.frame _ _ _ st2 fun b _ o e => k4 b o e) (fun b o _ _ _ _ _ e => k4 b o e) hS4 rfl rfl
end
end DL
/-! LZ4: list(zip(e, e2)). -/
namespace DL
open PySem PySem.W PySem.Spec PyProof.Rows L2
/-- the pairs tracked at their addresses -/
def putP : Hp → List Addr → List (V × V) → Hp
  | H, a :: as, p :: ps => putP (upd H a (.tup [p.1, p.2])) as ps
  | H, _, _ => H
theorem putP_off {b : Addr} : ∀ (as : List Addr) (ps : List (V × V)) (H : Hp), b ∉ as → putP H as ps b = H b
  | [], _, _, _ => rfl
  | _ :: _, [], _, _ => rfl
  | a :: as, p :: ps, H, h => by
    show putP (upd H a (.tup [p.1, p.2])) as ps b = H b
    rw [putP_off as ps _ (fun z => h (List.mem_cons_of_mem _ z)), upd_ne (fun z => h (by rw [z]; exact List.mem_cons_self))]
theorem putP_at : ∀ (as : List Addr) (ps : List (V × V)) (H : Hp), as.length = ps.length → as.Nodup → Paired (fun (t : Addr) (p : V × V) => putP H as ps t = some (.tup [p.1, p.2])) as ps
  | [], [], _, _, _ => .nil
  | [], _ :: _, _, h, _ => by cases h
  | _ :: _, [], _, h, _ => by cases h
  | a :: as, p :: ps, H, h, hn => by
    have hn' := List.nodup_cons.mp hn
    have ih := putP_at as ps (upd H a (.tup [p.1, p.2])) (Nat.succ.inj h) hn'.2
    refine .cons ?_ ih
    show putP (upd H a (.tup [p.1, p.2])) as ps a = some (.tup [p.1, p.2])
    rw [putP_off as ps _ hn'.1, upd_same]
section
variable {X : Cx} {pins : List (Addr × Obj)} {σ : L2.St} {H : Hp} {s : Shared}
theorem pairs_laid {h' : Heap} {tk : Nat} {ps : List (V × V)} {acc : Array Value} {c L : Nat} {as : List Addr} {P1 P2 : Nat → Value → Prop} (I : Inv X pins σ H s) (hz : ps.length ≤ sizeLine) (hL : s.heap.objs.size ≤ L)
    (hk : ∀ b o, s.heap.get? b = some o → h'.get? b = some o) (hS : h'.get? L = some { cls := .type "list", dict := none, data := .seq acc c, slots := #[] }) (hl : as.length = ps.length) (hG : ZG P1 P2 L h' as)
    (hP : ∀ j p v1 v2, ps[j]? = some p → P1 j v1 → P2 j v2 → RelV p.1 v1 ∧ RelV p.2 v2) (hacc : acc.toList = as.map Value.ref) :
    ∃ H' : Hp, (∀ b o, H b = some o → H' b = some o) ∧ H L = none ∧ (∀ t ∈ as, H t = none) ∧ L ∉ as ∧ H' L = some (.lst (as.map V.ref)) ∧ Paired (fun (t : Addr) (q : V × V) => H' t = some (.tup [q.1, q.2])) as ps ∧ Inv X pins σ H' { s with heap := h', toks := tk } := by
  have hSn : L ∉ as := fun z => Nat.lt_irrefl _ (hG.above _ z)
  have nd : as.Nodup := List.Pairwise.imp (fun {a b} (h : a < b) => Nat.ne_of_lt h) hG.rise
  have new : ∀ t ∈ as, H t = none := fun t ht => I.hok.fresh (Nat.le_trans hL (Nat.le_of_lt (hG.above t ht)))
  have newS : H L = none := I.hok.fresh hL
  have atP := putP_at as ps (upd H L (.lst (as.map V.ref))) hl nd
  have off : ∀ b, b ∉ as → b ≠ L → putP (upd H L (.lst (as.map V.ref))) as ps b = H b := fun b h1 h2 => by rw [putP_off as ps _ h1, upd_ne h2]
  have low : ∀ b o, s.heap.get? b = some o → b ∉ as ∧ b ≠ L := fun b o e => ⟨fun z => absurd (Heap.lt_size e) (Nat.not_lt.mpr (Nat.le_trans hL (Nat.le_of_lt (hG.above b z)))), Nat.ne_of_lt (Nat.lt_of_lt_of_le (Heap.lt_size e) hL)⟩
  have kp : ∀ b u, H b = some u → (putP (upd H L (.lst (as.map V.ref))) as ps) b = some u := fun b u e => by
    rw [off b (fun z => by rw [new b z] at e; cases e) (fun z => by rw [z, newS] at e; cases e)]
    exact e
  have eS : putP (upd H L (.lst (as.map V.ref))) as ps L = some (.lst (as.map V.ref)) := by rw [putP_off as ps _ hSn, upd_same]
  refine ⟨putP (upd H L (.lst (as.map V.ref))) as ps, kp, newS, new, hSn, eS, atP, ?_⟩
  refine I.call' (ch := []) rfl ⟨fun b o q _ _ _ => hk b o q, fun b o q _ _ _ => ⟨o.slots, hk b o q⟩, fun b o q n _ => ?_, fun b o q _ => ⟨o, hk b o q⟩, fun b xs q => kp b _ q, fun b o u q => kp b _ q, fun b ps q => ⟨#[], by rw [kp b _ q]; simp⟩⟩ (fun b u q => ?_) I.bare fun b z => by simp at z
  · obtain ⟨z1, z2⟩ := low b o q
    rw [off b z1 z2]
    exact n
  · by_cases hb : b ∈ as
    · obtain ⟨j, pk, e1, e2, e3⟩ := LiI.paired_ix atP hb
      rw [e3] at q
      cases q
      obtain ⟨v1, v2, f1, f2, f3⟩ := hG.pairs j b e1
      obtain ⟨r1, r2⟩ := hP j pk v1 v2 e2 f1 f2
      exact ⟨by show 2 ≤ sizeLine; decide, [v1, v2], .cons r1 (.cons r2 .nil), ⟨_, f3, rfl, _, rfl⟩⟩
    · by_cases hb2 : b = L
      · rw [hb2] at q ⊢
        rw [eS] at q
        cases q
        refine ⟨by rw [List.length_map]; omega, acc.toList, c, by rw [hacc]; exact LiI.vals_refs as, ?_⟩
        rw [Array.toArray_toList]
        exact hS
      · rw [off b hb hb2] at q
        exact (I.hok b u q).stay (fun d v _ y => hk d v y) (fun d y => kp d _ y) fun d xs y => kp d _ y
/-- what list(zip(..)) gives -/
def tListZip (K : PySem.W.Frag) (ta : L2.TA) : TE := fun σ H Q => ta σ H fun vs H1 => ∃ a1 a2 xs ys b1 b2, vs = [.ref a1, .ref a2] ∧ SqA K H1 a1 xs b1 ∧ SqA K H1 a2 ys b2 ∧
  ∀ (H' : Hp) (p : Addr) (ts : List Addr), (∀ b o, H1 b = some o → H' b = some o) → H1 p = none → (∀ t ∈ ts, H1 t = none) → p ∉ ts → (xs.zip ys).length ≤ sizeLine → H' p = some (.lst (ts.map V.ref)) → Paired (fun (t : Addr) (q : V × V) => H' t = some (.tup [q.1, q.2])) ts (xs.zip ys) → Q (.ref p) H'
theorem pe_listZip {e e2 : Expr} {ta : L2.TA} {p p2 pos pos2 : Pos} (hc : X.calm = true) (hg : Gl X "list") (hm : X.mg "list" = none) (hg' : Gl X "zip") (hm' : X.mg "zip" = none) (ha : PA X [e, e2] ta)
    (hs : starEach [e, e2] X.env = (false, eval e X.env) :: starEach [e2] X.env) (hpl : (backTo pos2 (starEach [e2] X.env)).any (·.1) = false)
    (na : starEach [.Call (.Name "zip" p2) [e, e2] [] pos2] X.env = (false, eval (.Call (.Name "zip" p2) [e, e2] [] pos2) X.env) :: starEach [] X.env) :
    PE X (.Call (.Name "list" p) [.Call (.Name "zip" p2) [e, e2] [] pos2] [] pos) (tListZip X.K ta) := by
  refine ⟨fun pins s σ H Q I h => ?_⟩
  refine Call_ (ld_blt I hg hm boot_list (PyProof.Rows.callWith_type1 (args_cons ?_ na) na))
  refine Call_ (ld_blt I hg' hm' PyProof.Rows.boot_zip (PyProof.Rows.callWith_type1 (thn (ha.run pos2 pins s σ H _ I h) fun us s1 ⟨vs, H1, I1, r1, q1⟩ => ?_) hs hpl))
  obtain ⟨a1, a2, xs, ys, b1, b2, rfl, hqx, hqy, q⟩ := q1
  cases r1 with
  | cons r rr =>
    cases rr with
    | cons r' rr =>
      cases rr
      cases r
      cases r'
      obtain ⟨its, rv, p1, hz1⟩ := inv_seq I1 hqx
      obtain ⟨its2, rv2, p2', hz2⟩ := inv_seq I1 hqy
      have l1 := seq_lt p1
      have l2 := seq_lt p2'
      have e1 := rv.length
      have e2' := rv2.length
      refine zip_begins2 (beginsA a1 its.toArray b1) (beginsA a2 its2.toArray b2) p1 p2' fun h' hz hTI hTO g1 g2 hsz hk => args_nil ?_
      have n1 : ∀ k, s1.heap.objs.size + k ≠ a1 := fun k => Nat.ne_of_gt (Nat.lt_of_lt_of_le l1 (Nat.le_add_right _ _))
      have n2 : ∀ k, s1.heap.objs.size + k ≠ a2 := fun k => Nat.ne_of_gt (Nat.lt_of_lt_of_le l2 (Nat.le_add_right _ _))
      have n3 := n1 0
      have n4 := n2 0
      rw [Nat.add_zero] at n3 n4
      have sz : (({ s1 with heap := h' } : Shared)).heap.objs.size = s1.heap.objs.size + 5 := hsz
      have hp1 : seqAt h' a1 its.toArray b1 := by
        cases b1 <;> (obtain ⟨o, ho, r⟩ := p1; exact ⟨o, hk _ _ ho, r⟩)
      have hp2 : seqAt h' a2 its2.toArray b2 := by
        cases b2 <;> (obtain ⟨o, ho, r⟩ := p2'; exact ⟨o, hk _ _ ho, r⟩)
      have lzip : (xs.zip ys).length = min its.length its2.length := by rw [List.length_zip, e1, e2']
      have D1 := drawsA (prog := X.prog) (w := X.w) (A := X.A.in1.in1.in1) (I1.ok.hd hc) s1.heap.objs.size a1 (Ne.symm n3) its.toArray b1
      have D2 := drawsA (prog := X.prog) (w := X.w) (A := X.A.in1.in1.in1) (I1.ok.hd hc) (s1.heap.objs.size + 1) a2 (Ne.symm (n2 1)) its2.toArray b2
      refine zl_call (s := { s1 with heap := h' }) (n := (xs.zip ys).length) (fp1 := [s1.heap.objs.size, a1]) (fp2 := [s1.heap.objs.size + 1, a2]) ?_ D1 D2
        (by rw [lzip]; simp; omega) (by rw [lzip]; simp; omega) (by rw [lzip]; simp; omega) (by rw [lzip]; omega) (fun b hb => ?_) hz hTI hTO ⟨itSt.new g1, hp1⟩ ⟨itSt.new g2, hp2⟩ fun h2 tk acc c as k1 k2 k3 k4 k5 => ?_
      · constructor <;> simp [n1, n2, n3, n4]
      · rw [sz]
        have e' : b = s1.heap.objs.size + 4 ∨ b = s1.heap.objs.size + 2 ∨ b = s1.heap.objs.size + 3 ∨ (b = s1.heap.objs.size ∨ b = a1) ∨ (b = s1.heap.objs.size + 1 ∨ b = a2) := by simpa using hb
        have t : ∀ k, k < 5 → s1.heap.objs.size + k < s1.heap.objs.size + 5 := fun k hk => Nat.add_lt_add_left hk _
        rcases e' with q' | q' | q' | (q' | q') | (q' | q')
        · rw [q']; exact t 4 (by decide)
        · rw [q']; exact t 2 (by decide)
        · rw [q']; exact t 3 (by decide)
        · rw [q']; exact t 0 (by decide)
        · rw [q']; exact Nat.lt_trans l1 (t 0 (by decide))
        · rw [q']; exact t 1 (by decide)
        · rw [q']; exact Nat.lt_trans l2 (t 0 (by decide))
      · have kk : ∀ b o, s1.heap.get? b = some o → h2.get? b = some o := fun b o e => by
          have hb : b < s1.heap.objs.size := Heap.lt_size e
          have lt : ∀ k, b ≠ s1.heap.objs.size + k := fun k => Nat.ne_of_lt (Nat.lt_of_lt_of_le hb (Nat.le_add_right _ _))
          exact k1 b o (lt 4) (lt 3) (lt 0) (lt 1) (hk b o e)
        obtain ⟨H2, m1, m2, m3, m4, m5, m6, J⟩ := pairs_laid (tk := tk) (ps := xs.zip ys) I1 (by rw [lzip]; omega) (by rw [sz]; exact Nat.le_add_right _ _) kk k2 k3 k4 (fun j pr v1 v2 hj w1 w2 => by
          have := List.getElem?_zip_eq_some.mp hj
          obtain ⟨u1, hu1, ru1⟩ := rv.get this.1
          obtain ⟨u2, hu2, ru2⟩ := rv2.get this.2
          have w1' : its[j]? = some v1 := by simpa using w1
          have w2' : its2[j]? = some v2 := by simpa using w2
          rw [hu1] at w1'; rw [hu2] at w2'
          cases w1'; cases w2'
          exact ⟨ru1, ru2⟩) k5
        exact ⟨.ref _, H2, J, rfl, q H2 _ as m1 m2 m3 m4 (by rw [lzip]; omega) m5 m6⟩
end
end DL
/-! LZ5: list(zip(e, e2)) at the level of data. -/
namespace DL
open PySem PySem.W PySem.Spec PyProof.Rows L2
section
variable {X : Cx} {c : Cf} {K : PySem.W.Frag} {F : Addr → Prop} {bad bad' : Addr → Prop} {H H' : Hp} {σ : L2.St} {ρ : Rho} {e : Expr} {wr : DTR}
theorem dvs_pairs (k : ∀ a o, H a = some o → ¬ bad a → H' a = some o ∧ ¬ bad' a) : ∀ {ts : List Addr} {us ws : List V} {xs ys : List D}, DVs K H bad us xs → DVs K H bad ws ys →
    Paired (fun (t : Addr) (q : V × V) => H' t = some (.tup [q.1, q.2])) ts (us.zip ws) → (∀ t ∈ ts, ¬ bad' t) → DVs K H' bad' (ts.map V.ref) (zipD xs ys)
  | ts, [], ws, xs, ys, d1, d2, p, n => by
    cases d1
    cases p
    exact .nil
  | ts, u :: us, [], xs, ys, d1, d2, p, n => by
    cases d2
    cases p
    cases d1
    exact .nil
  | ts, u :: us, v :: ws, xs, ys, d1, d2, p, n => by
    cases p with
    | cons h t =>
      cases d1 with
      | cons a1 r1 =>
        cases d2 with
        | cons a2 r2 =>
          exact .cons (.tup (.inl ⟨.inl h, n _ List.mem_cons_self⟩) (.cons (a1.mono k) (.cons (a2.mono k) .nil))) (dvs_pairs k r1 r2 t fun t m => n t (List.mem_cons_of_mem _ m))
theorem d_listZ (hK : X.K = c.K) (h : PE X e (tListZip X.K (tDH c 2 wr))) : PE X e (tD c fun E ρ Q => zipW wr E ρ fun xs _ ρ1 => Q (.own xs) ρ1) := by
  refine h.imp fun σ H Q ⟨F, ρ, E, Qd, rp, hw, xc, k⟩ => ⟨F, ρ, E, _, rp, hw, xc, fun vs H1 ρ1 rs as hl n1 p1 h1 f1 q1 => ?_⟩
  obtain ⟨ds, ρ2, q2, p2, d2, n2⟩ := all_esc p1 h1 f1 q1
  split at q2
  · rename_i d d'
    split at q2
    · rename_i xs ys e1 e2
      cases d2 with
      | cons dv1 r1 =>
        cases r1 with
        | cons dv2 r2 =>
          cases r2
          obtain ⟨x, us0, b, rfl, _, g2, g3⟩ := dv_seq dv1 e1
          obtain ⟨y, ws0, b', rfl, _, g5, g6⟩ := dv_seq dv2 e2
          obtain ⟨us, g1, w1⟩ := SA.ta g2
          obtain ⟨ws, g4, w2⟩ := SA.ta g5
          rw [hK]
          refine ⟨x, y, us, ws, b, b', rfl, g1, g4, fun H' p ts m1 m2 m3 m4 hz m5 m6 => ?_⟩
          have rb : ResB c.K (Bad F σ ρ2) H1 (.ref p) H' (.own (zipD xs ys)) := ⟨m1, p, ts.map .ref, rfl, m2, m5, dvs_pairs (fun a o e nb => ⟨m1 a o e, fun q => q.elim nb fun z => by subst z; rw [m2] at e; cases e⟩) w1 w2 m6
            fun t ht q => q.elim (fun z => p2.bad_dom z (m3 t ht)) fun z => m4 (z ▸ ht)⟩
          obtain ⟨n3, ok⟩ := ResB.ok p2 rb
          exact k _ _ _ _ ((n1.trans n2).trans n3) ok (fun a q => (n1.trans n2).fresh (nf_of rb a q)) q2
    · exact q2.elim
  · exact q2.elim
end
end DL
/-! DL25: the context in which a text is checked against the syntax. -/
namespace DL
open PySem PySem.Spec PyProof.Rows L2
/-- what is known of a text: a def's names, defs with numbers of parameters, their names, constants, built-ins that the text does not name -/
structure Tb where
  N : List Str
  fns : List (String × Nat)
  pars : List (String × List Str)
  con : List (String × D)
  blt : List String
abbrev Sc := List (Str × NameKind)
/-- a def that may be called -/
structure Callee (X : Cx) (c : Cf) (f : String) (n : Nat) (sp : DSp) (pars : Option (List Str)) : Prop where
  ex : ∃ (CX : CXT) (k : Nat) (fa : Addr) (fd : FuncData) (ps : List Str), FnG X.prog X.w X.K X.mg X.base CX k fa fd ps (hs X.K c.xt n sp) ∧ Room k X.A ∧ X.mg (Str.ofString f) = some (.ref fa) ∧ PySem.W.keepIn X.K (.ref fa) = true ∧
    Binds X.K fd ps [] ∧ ps.length = n ∧ Passes CX X c.Eh ∧ (∀ qs, pars = some qs → ps = qs ∧ KwAll X.K fd qs) ∧ (∀ o H s e s', CX o H s (fun _ _ _ => False) e s' → False)
structure Gd (T : Tb) (Γ : Gam) (c : Cf) (sc : Sc) (fn : Str → Bool) (X : Cx) : Prop where
  nm : X.env.scope.names = sc
  kd : X.env.scope.kind = .function
  N : X.N = T.N
  nd : T.N.Nodup
  K : X.K = c.K
  calm : X.calm = true
  fn : ∀ x, fn x = true → X.fn x = true
  gd : X.A.guards = some []
  un : X.A.units + 100 < cLine
  own : PassesOwn (model X.prog X.w) X.A X.env X.xe
  call : ∀ f n, T.fns.lookup f = some n → Callee X c f n (Γ f) (T.pars.lookup f)
  con : ∀ x d, T.con.lookup x = some d → ∃ u v, X.mg (Str.ofString x) = some u ∧ RelV v u ∧ ∀ H bad, DV c.K H bad v d
  blt : ∀ x, T.blt.contains x = true → X.mg (Str.ofString x) = none
  gcd : T.blt.contains "math.gcd" = true → X.mg (Str.ofString "gcd") = some (.builtin "math.gcd")
/-- the names of a comprehension within a def -/
def relN (names sc : Sc) : Sc := names.map fun (n, k) => if (k == .free && sc.lookup n == some .cell) then (n, .cell) else (n, k)
section
variable {T : Tb} {Γ : Gam} {c : Cf} {sc : Sc} {fn : Str → Bool} {X : Cx}
theorem Gd.blk (g : Gd T Γ c sc fn X) (s : Shared) (H : Hp) (scope : Scope) (hk : scope.kind = .function) (C : Addr) (cl : List (Str × Addr)) (fp : List Addr) :
    Gd T Γ c.quiet (relN scope.names sc) (fun x => scope.names.lookup x == some .cell) (X.blk s H scope (compEnvC scope cl C X.env) fp) where
  nm := by
    show (relabel scope X.env).names = _
    have e : (ScopeKind.function == ScopeKind.function) = true := by decide
    simp only [relabel, relN, g.kd, Env.kindOf, g.nm, e, Bool.and_true]
  kd := hk
  N := g.N
  nd := g.nd
  K := g.K
  calm := g.calm
  fn := fun x h => h
  gd := g.gd
  un := g.un
  own := PassesOwn.never
  call := fun f n h => by
    obtain ⟨CX, k, fa, fd, ps, h1, h2, h3, h4, h5, h6, h7, h8, h9⟩ := (g.call f n h).ex
    exact ⟨CX, k, fa, fd, ps, h1, h2, h3, h4, h5, h6, fun _ _ _ _ _ _ _ q => h9 _ _ _ _ _ q, h8, h9⟩
  con := g.con
  blt := g.blt
  gcd := g.gcd
theorem Gd.gl (g : Gd T Γ c sc fn X) {x : Str} (h : sc.lookup x = some .globalImplicit) : Gl X x := by
  show X.env.scope.names.lookup x = _
  rw [g.nm]; exact h
theorem Gd.vis (g : Gd T Γ c sc fn X) {x : Str} (h : (decide (sc.lookup x = some .local) || decide (sc.lookup x = some .cell) || decide (sc.lookup x = some .free)) = true) : Vis X.env.scope x := by
  simp only [Bool.or_eq_true, decide_eq_true_eq] at h
  unfold Vis
  rw [g.nm]
  rcases h with (h | h) | h
  · exact .inl h
  · exact .inr (.inl h)
  · exact .inr (.inr h)
end
/-! ### side conditions -/
def noStar : Expr → Bool
  | .Starred .. => false
  | _ => true
theorem starEach_cons {e : Expr} {es : List Expr} {env : Env} (h : noStar e = true) : starEach (e :: es) env = (false, eval e env) :: starEach es env := by
  cases e <;> first | rfl | cases h
def notSlice : Expr → Bool
  | .Slice .. => false
  | _ => true
theorem plainIx {b : Expr} (h : notSlice b = true) : PlainIx b := by
  intro o i
  cases b <;> first | rfl | cases h
def notSet : Expr → Bool
  | .Set .. => false
  | _ => true
theorem folded {e : Expr} {env : Env} (h : notSet e = true) (x : Value) : foldedSetIterable e env x = pure x := by
  cases e <;> first | rfl | cases h
theorem behind {op : CmpOp} {e : Expr} (h : notSet e = true) : behindInMarks op e = false := by
  cases e <;> first | rfl | cases h
theorem marks {o o' : CmpOp} {a b : Expr} (h : notSet b = true) : lastMarks [o, o'] [a, b] = false := by
  show behindInMarks o' b = false
  exact behind h
/-- a test that goes by the value alone -/
def byVal : Expr → Bool
  | .UnaryOp .Not _ _ => false
  | .BoolOp .. => false
  | .IfExp .. => false
  | .Compare .. => false
  | _ => true
theorem isTrue_val {e : Expr} {env : Env} (h : byVal e = true) (whole : Sem Value) : isTrue e env whole = (do let v ← whole; standAt e.pos; holding [v] (truthy v)) := by
  cases e with
  | UnaryOp op x p => cases op <;> first | rfl | cases h
  | BoolOp => cases h
  | IfExp => cases h
  | Compare => cases h
  | _ => rfl
def notComp : Expr → Bool
  | .ListComp .. => false
  | .SetComp .. => false
  | .DictComp .. => false
  | _ => true
theorem noSwap {e : Expr} {t : Option Expr} {l : Nat} {env : Env} (h : notComp e = true) : swapsWith e t l env = pure false := by
  cases e <;> first | rfl | cases h
def notTup : Expr → Bool
  | .Tuple .. => false
  | _ => true
theorem noSwapS {t e : Expr} {env : Env} (h : notTup e = true) : swappedStores [t] e env = pure none := by
  cases t <;> cases e <;> first | rfl | cases h
def notSeq : Expr → Bool
  | .Tuple .. => false
  | .List .. => false
  | _ => true
theorem noSwapS' {t e : Expr} {env : Env} (h : notSeq t = true) : swappedStores [t] e env = pure none := by
  cases t <;> cases e <;> first | rfl | cases h
theorem assign_one {t : Expr} {env : Env} (h : noStar t = true) : (assignEach [t] env).map (·.2) = [assign t env] := by
  cases t <;> first | rfl | cases h
theorem assign_cons {t : Expr} {ts : List Expr} {env : Env} (h : noStar t = true) : assignEach (t :: ts) env = (false, assign t env) :: assignEach ts env := by
  cases t <;> first | rfl | cases h
/-- [..] on the line of a local name -/
def swB (sc : Sc) (t : Str) (tp : Pos) (scope : Scope) (p : Pos) : Bool :=
  decide (sc.lookup t = some .local) && tp.line == p.line && !(scope.names.any fun (n, k) => n == t && (k == .local || k == .cell))
section
variable {T : Tb} {Γ : Gam} {c : Cf} {sc : Sc} {fn : Str → Bool} {X : Cx}
theorem Gd.bk (g : Gd T Γ c sc fn X) : X.env.blockKind = .function := by
  unfold Env.blockKind
  rw [g.kd]
  rfl
theorem swaps_lc (g : Gd T Γ c sc fn X) {elt : Expr} {gs : List Comprehension} {scope : Scope} {p tp : Pos} {t : Str} {l : Nat} : swapsWith (.ListComp elt gs scope p) (some (.Name t tp)) l X.env = pure (swB sc t tp scope p) := by
  show (pure (X.env.blockKind == .function && X.env.kindOf t == some .local && tp.line == p.line && !(scope.names.any fun (n, k) => n == t && (k == .local || k == .cell))) : Sem Bool) = _
  have e : (ScopeKind.function == ScopeKind.function) = true := by decide
  have e2 : (sc.lookup t == some NameKind.local) = decide (sc.lookup t = some .local) := by
    by_cases q : sc.lookup t = some .local
    · rw [q]; decide
    · rw [decide_eq_false q]
      exact beq_eq_false_iff_ne.mpr q
  rw [g.bk, Env.kindOf, g.nm]
  unfold swB
  rw [e, e2, Bool.true_and]
theorem swaps_other (g : Gd T Γ c sc fn X) {e t : Expr} {l : Nat} (h : (match t with | .Name .. => false | _ => true) = true) : swapsWith e (some t) l X.env = pure false := by
  cases e <;> first
    | rfl
    | (cases t <;> first | rfl | cases h)
/-- what several stores at once are -/
def swS (sc : Sc) (ts vs : List Expr) : Option (Option (List Str)) :=
  if !(ts.length == 2 || ts.length == 3) || vs.length != ts.length then some none
  else if vs.any (fun | .Starred .. => true | _ => false) then some none
  else
    let line := (ts.head?.map (·.pos.line)).getD 0
    let names := ts.filterMap fun
      | .Name id pos => if sc.lookup id == some .local && pos.line == line then some id else none
      | _ => none
    if names.length != ts.length || names.eraseDups.length != names.length then some none
    else if vs.all (foldedForSure 8) then some none
    else if vs.all (constantsAlone 8) then none
    else some (some names)
theorem swaps_tup (g : Gd T Γ c sc fn X) {ts vs : List Expr} {k k2 : Nat} {p p2 : Pos} {r : Option (List Str)} (h : swS sc ts vs = some r) : swappedStores [.Tuple ts k p] (.Tuple vs k2 p2) X.env = pure r := by
  have e : (ScopeKind.function != ScopeKind.function) = false := by decide
  unfold swS at h
  simp only [swappedStores, g.bk, Env.kindOf, g.nm, e, Bool.or_false]
  split at h
  · rename_i q; cases h; exact if_pos q
  rename_i q; refine (if_neg q).trans ?_
  split at h
  · rename_i q; cases h; exact if_pos q
  rename_i q; refine (if_neg q).trans ?_
  dsimp only at h
  split at h
  · rename_i q; cases h; exact if_pos q
  rename_i q; refine (if_neg q).trans ?_
  split at h
  · rename_i q; cases h; exact if_pos q
  rename_i q; refine (if_neg q).trans ?_
  split at h
  · cases h
  rename_i q; refine (if_neg q).trans ?_
  cases h
  rfl
end
end DL
/-! DL26: the check of expressions. -/
namespace DL
open PySem PySem.Spec PyProof.Rows L2
mutual
def eqD : D → D → Bool
  | .int i, .int j => decide (i = j)
  | .bool i, .bool j => i == j
  | .str i, .str j => decide (i = j)
  | .none, .none => true
  | .tuple xs, .tuple ys => eqDs xs ys
  | .list xs, .list ys => eqDs xs ys
  | _, _ => false
def eqDs : List D → List D → Bool
  | [], [] => true
  | x :: xs, y :: ys => eqD x y && eqDs xs ys
  | _, _ => false
end
mutual
theorem eqD_eq : ∀ (x y : D), eqD x y = true → x = y
  | .int i, y, h => by cases y <;> simp [eqD] at h <;> rw [h]
  | .bool i, y, h => by cases y <;> simp [eqD] at h <;> rw [h]
  | .str i, y, h => by cases y <;> simp [eqD] at h <;> rw [h]
  | .none, y, h => by cases y <;> simp [eqD] at h; rfl
  | .tuple xs, y, h => by cases y <;> simp [eqD] at h; rw [eqDs_eq xs _ h]
  | .list xs, y, h => by cases y <;> simp [eqD] at h; rw [eqDs_eq xs _ h]
  | .dict _, y, h => by cases y <;> simp [eqD] at h
theorem eqDs_eq : ∀ (x y : List D), eqDs x y = true → x = y
  | [], y, h => by cases y <;> simp [eqDs] at h; rfl
  | x :: xs, y, h => by
    cases y with
    | nil => simp [eqDs] at h
    | cons y ys =>
      simp only [eqDs, Bool.and_eq_true] at h
      rw [eqD_eq x y h.1, eqDs_eq xs ys h.2]
end
def okN (x : Str) : Bool := !(x == ("__debug__" : Str)) && !(x == ("__classdict__" : Str)) && !(x == ("__name__" : Str))
def isVis (sc : Sc) (x : Str) : Bool := decide (sc.lookup x = some .local) || decide (sc.lookup x = some .cell) || decide (sc.lookup x = some .free)
/-- a name of a global that is called f -/
def gName? (sc : Sc) (f : String) : Expr → Bool
  | .Name id _ => id == Str.ofString f && decide (sc.lookup id = some .globalImplicit) && okN id
  | _ => false
def biN : Bi → String
  | .len => "len" | .tuple => "tuple" | .list => "list" | .abs => "abs" | .int => "int" | .divmod => "divmod" | .gcd => "gcd" | .isInt => "int" | .isBool => "bool" | .isTuple => "tuple" | .repr => "repr" | .sum => "sum"
  | .sorted => "sorted" | .all => "all" | .any => "any" | .max => "max" | .min => "min" | .str => "str" | .isStr => "str" | .isList => "list"
def isIs : Bi → Bool
  | .isInt | .isBool | .isTuple | .isStr | .isList => true
  | _ => false
def litB : D → Expr → Bool
  | .int i, .Constant (.int j) _ _ => decide (i = j)
  | .bool i, .Constant (.bool j) _ _ => i == j
  | .str i, .Constant (.str j) _ _ => decide (i = j)
  | .none, .Constant .none _ _ => true
  | _, _ => false
/-- tests that need no look at their branches -/
def tst : Expr → Bool
  | .IfExp .. => false
  | _ => true
def isTup : Expr → Bool
  | .Tuple .. => true
  | _ => false
def needT : Ex → Bool
  | .enum _ => true
  | .zip _ _ => true
  | _ => false
/-- a target of names: its names may be stored here -/
def ckN1 (N : List Str) (sc : Sc) (fn : Str → Bool) (i : Nat) : Expr → Bool
  | .Name id _ => decide (N[i]? = some id) && (decide (sc.lookup id = some .local) || (decide (sc.lookup id = some .cell) && fn id))
  | _ => false
def ckNs (N : List Str) (sc : Sc) (fn : Str → Bool) : List Tn → List Expr → Bool
  | [], [] => true
  | .name i :: ts, e :: es => ckN1 N sc fn i e && ckNs N sc fn ts es
  | _, _ => false
def ckN (N : List Str) (sc : Sc) (fn : Str → Bool) : Tn → Expr → Bool
  | .name i, e => ckN1 N sc fn i e
  | .tup ts, .Tuple es _ _ => ckNs N sc fn ts es
  | _, _ => false
/-- a block's names -/
def blkB (N : List Str) (sc : Sc) (scope : Scope) (O : List Nat) : Bool :=
  decide (scope.kind = .function) && (scope.names.all fun y => decide (scope.names.lookup y.1 = some y.2)) && O.all (fun j => (N[j]?).isSome) &&
    scope.names.all fun y => match y.2 with
      | .free => decide (sc.lookup y.1 = some .cell) || decide (sc.lookup y.1 = some .free)
      | .local => O.any (fun j => decide (N[j]? = some y.1)) || !(N.contains y.1)
      | .cell => O.any (fun j => decide (N[j]? = some y.1)) || !(N.contains y.1)
      | _ => true
def kwB : List Str → List Keyword → Bool
  | [], [] => true
  | p :: ps, k :: ks => decide (k.arg = some p) && kwB ps ks
  | _, _ => false
def kwV : List Keyword → List Expr
  | [] => []
  | k :: ks => k.value :: kwV ks
def Tb.isF (T : Tb) (f : String) (n : Nat) : Bool := decide (T.fns.lookup f = some n)
def Tb.knows (T : Tb) : Bi → Bool
  | .gcd => T.blt.contains "math.gcd"
  | .str => false
  | b => T.blt.contains (biN b)
mutual
def ck (T : Tb) : Ex → Sc → Expr → Bool
  | .lit d, _, e => litB d e
  | .con x d, sc, e => gName? sc x e && (match T.con.lookup x with
    | some d' => eqD d' d
    | none => false)
  | .var i, sc, e => match e with
    | .Name id _ => decide (T.N[i]? = some id) && isVis sc id && okN id
    | _ => false
  | .op2 o a b, sc, e => match e with
    | .BinOp l op r _ => decide (op = o.op) && ck T a sc l && ck T b sc r
    | _ => false
  | .repL es n, sc, e => match e with
    | .BinOp (.List ls _) op r _ => decide (op = .Mult) && cks T es sc ls && decide (es.length ≤ 1000) && ck T n sc r
    | _ => false
  | .cmp o a b, sc, e => match e with
    | .Compare l [op] [r] _ => decide (op = o.op) && ck T a sc l && ck T b sc r && notSet r
    | _ => false
  | .isN a, sc, e => match e with
    | .Compare l [.Is] [.Constant .none _ _] _ => ck T a sc l
    | _ => false
  | .notN a, sc, e => match e with
    | .Compare l [.IsNot] [.Constant .none _ _] _ => ck T a sc l
    | _ => false
  | .chain o o' a b c, sc, e => match e with
    | .Compare l [op, op'] [r, q] _ => decide (op = o.op) && decide (op' = o'.op) && ck T a sc l && ck T b sc r && ck T c sc q && notSet q
    | _ => false
  | .neg a, sc, e => match e with
    | .UnaryOp .USub l _ => ck T a sc l
    | _ => false
  | .not a, sc, e => match e with
    | .UnaryOp .Not l _ => ck T a sc l && tst l
    | _ => false
  | .and a b, sc, e => match e with
    | .BoolOp .And (x :: y :: r) p => ck T a sc x && tst x && (match r with
      | [] => ck T b sc y && tst y
      | _ :: _ => ck T b sc (.BoolOp .And (y :: r) p))
    | _ => false
  | .or a b, sc, e => match e with
    | .BoolOp .Or (x :: y :: r) p => ck T a sc x && tst x && (match r with
      | [] => ck T b sc y && tst y
      | _ :: _ => ck T b sc (.BoolOp .Or (y :: r) p))
    | _ => false
  | .ife c a b, sc, e => match e with
    | .IfExp q x y _ => ck T c sc q && tst q && ck T a sc x && ck T b sc y
    | _ => false
  | .tup es, sc, e => match e with
    | .Tuple xs _ _ => cks T es sc xs && decide (es.length ≤ 1000)
    | _ => false
  | .lst es, sc, e => match e with
    | .List xs _ => cks T es sc xs && decide (es.length ≤ 1000)
    | _ => false
  | .idx a b, sc, e => match e with
    | .Subscript l r _ => ck T a sc l && ck T b sc r && notSlice r
    | _ => false
  | .slc a lo hi, sc, e => match e with
    | .Subscript l (.Slice x y none _) _ => ck T a sc l && cko T lo sc x && cko T hi sc y
    | _ => false
  | .call f es, sc, e => match e with
    | .Call g xs [] _ => gName? sc f g && T.isF f es.length && cks T es sc xs
    | _ => false
  | .callK f ks es, sc, e => match e with
    | .Call g [] kws _ => gName? sc f g && T.isF f es.length && (match T.pars.lookup f with
      | some ps => kwB ps kws
      | none => false) && cks T es sc (kwV kws)
    | _ => false
  | .callIo f a es, sc, e => match e with
    | .Call g (x :: xs) [] _ => gName? sc f g && T.isF f (es.length + 1) && ck T a sc x && noStar x && cks T es sc xs
    | _ => false
  | .bi b es, sc, e => match e with
    | .Call g xs [] _ => match isIs b with
      | true => (match es, xs with
        | [_], [x, t] => gName? sc "isinstance" g && T.blt.contains "isinstance" && gName? sc (biN b) t && T.blt.contains (biN b) && cks T es sc [x]
        | _, _ => false)
      | false => gName? sc (biN b) g && T.knows b && cks T es sc xs && decide (0 < es.length)
    | _ => false
  | .comp elt tg it ifs own, sc, e => match e with
    | .ListComp x [⟨t, i, fs, 0⟩] scope _ => ck T it sc i && notSet i && (!needT it || isTup t) && blkB T.N sc scope own && ckN T.N (relN scope.names sc) (fun y => scope.names.lookup y == some .cell) tg t && (tnNames tg).all (fun j => own.contains j) &&
        (match fs with
        | [] => (match ifs with
          | none => true
          | some _ => false)
        | [q] => cko T ifs (relN scope.names sc) (some q) && tst q
        | _ => false) && ck T elt (relN scope.names sc) x
    | _ => false
  | .listR es, sc, e => match e with
    | .Call g [.Call g2 [x] [] _] [] _ => gName? sc "list" g && T.blt.contains "list" && gName? sc "range" g2 && T.blt.contains "range" && decide (es.length = 1) && cks T es sc [x]
    | _ => false
  | .listZ a b, sc, e => match e with
    | .Call g [.Call g2 [x, y] [] _] [] _ => gName? sc "list" g && T.blt.contains "list" && gName? sc "zip" g2 && T.blt.contains "zip" && ck T a sc x && noStar x && ck T b sc y && noStar y
    | _ => false
  | .range es, sc, e => match e with
    | .Call g [x] [] _ => gName? sc "range" g && T.blt.contains "range" && decide (es.length = 1) && cks T es sc [x]
    | .Call g [x, y] [] _ => gName? sc "range" g && T.blt.contains "range" && decide (es.length = 2) && cks T es sc [x, y]
    | _ => false
  | .enum a, sc, e => match e with
    | .Call g [x] [] _ => gName? sc "enumerate" g && T.blt.contains "enumerate" && ck T a sc x && noStar x
    | _ => false
  | .zip a b, sc, e => match e with
    | .Call g [x, y] [] _ => gName? sc "zip" g && T.blt.contains "zip" && ck T a sc x && noStar x && ck T b sc y && noStar y
    | _ => false
  | .rev a, sc, e => match e with
    | .Call g [x] [] _ => gName? sc "reversed" g && T.blt.contains "reversed" && ck T a sc x && noStar x
    | _ => false
  | .pop i q, sc, e => match e with
    | .Call (.Attribute (.Name id _) at_ p1) [x] [] p2 => decide (at_ = ("pop" : Str)) && decide (T.N[i]? = some id) && isVis sc id && okN id && (p1.endLine == p2.line) && cko T q sc (some x) && noStar x
    | _ => false
  | .index a b, sc, e => match e with
    | .Call (.Attribute (.Name id p0) at_ p1) [x] [] p2 => decide (at_ = ("index" : Str)) && ck T a sc (.Name id p0) && (p1.endLine == p2.line) && ck T b sc x && noStar x
    | _ => false
  | .count _ _, _, _ => false
def cks (T : Tb) : List Ex → Sc → List Expr → Bool
  | [], _, [] => true
  | e :: es, sc, x :: xs => ck T e sc x && noStar x && cks T es sc xs
  | _, _, _ => false
def cko (T : Tb) : Option Ex → Sc → Option Expr → Bool
  | none, _, none => true
  | some e, sc, some x => ck T e sc x
  | _, _, _ => false
end
end DL
/-! DL27: the check of expressions is sound: pieces. -/
namespace DL
open PySem PySem.Spec PyProof.Rows L2
theorem _root_.L2.PK.imp {X : Cx} {e : List Keyword} {t t' : L2.TA} (h : PK X e t) (i : ∀ σ H Q, t' σ H Q → t σ H Q) : PK X e t' := ⟨fun pos pins s σ H Q I q => h.run pos pins s σ H Q I (i _ _ _ q)⟩
/-- an expression reads as told -/
structure Sn (c : Cf) (X : Cx) (nt : Bool) (e : Expr) (w : W4) : Prop where
  ex : PE X e (tD c w.e)
  t : tst e = true → PT X e (tDT c w.t)
  i : ∀ tg, (!nt || isTup tg) = true → PI X tg e (tDI c w.i)
  f : ∀ tg, (!nt || isTup tg) = true → PI X tg e (tDF c w.f)
inductive Sns (c : Cf) (X : Cx) : List Expr → List W4 → Prop
  | nil : Sns c X [] []
  | cons {e es w ws} : PE X e (tD c w.e) → noStar e = true → Sns c X es ws → Sns c X (e :: es) (w :: ws)
section
variable {T : Tb} {Γ : Gam} {c : Cf} {sc : Sc} {fn : Str → Bool} {X : Cx} {e a b x y : Expr} {es xs : List Expr} {w wa wb : DTE} {ws : List W4} {nt : Bool} {n : Nat} {pos p : Pos} {sp : DSp}
theorem pe_no {w : DTE} (h : ∀ E ρ Q, ¬ w E ρ Q) : PE X e (tD c w) := ⟨fun _ _ _ _ _ _ ⟨_, _, _, _, _, q, _⟩ => (h _ _ _ q).elim⟩
theorem pt_no {w : DTT} (h : ∀ E ρ Q, ¬ w E ρ Q) : PT X e (tDT c w) := ⟨fun _ _ _ _ _ _ ⟨_, _, _, _, _, q, _⟩ => (h _ _ _ q).elim⟩
theorem pi_no {tg : Expr} {w : DTI} (h : ∀ E ρ Q, ¬ w E ρ Q) : PI X tg e (tDI c w) := ⟨fun _ _ _ _ _ _ ⟨_, _, _, _, _, q, _⟩ => (h _ _ _ q).elim⟩
theorem pf_no {tg : Expr} {w : DTI} (h : ∀ E ρ Q, ¬ w E ρ Q) : PI X tg e (tDF c w) := ⟨fun _ _ _ _ _ _ ⟨_, _, _, _, _, q, _⟩ => (h _ _ _ q).elim⟩
theorem pw_of {op : BoolOp} {vs : List Expr} {t : L2.TT} (h : PT X (.BoolOp op vs p) t) : PW X (.BoolOp op vs p) t := ⟨fun _ pins s σ H Q I q => h.run pins s σ H Q I q⟩
/-- by the value alone -/
theorem Sn.of (g : Gd T Γ c sc fn X) (h : PE X e (tD c w)) (ht : PT X e (tDT c (asT w))) : Sn c X false e (.of w) := ⟨h, fun _ => ht, fun _ _ => i_seq g.K h, fun _ _ => f_seq g.K h⟩
theorem Sn.val (g : Gd T Γ c sc fn X) (h : PE X e (tD c w)) (hv : byVal e = true) : Sn c X false e (.of w) := Sn.of g h (t_val h (isTrue_val hv))
theorem Sns.len (h : Sns c X es ws) : es.length = ws.length := by induction h with
  | nil => rfl
  | cons _ _ _ ih => simp [ih]
theorem Sns.pa (h : Sns c X es ws) : PA X es (tDH c ws.length (eL ws)) := by induction h with
  | nil => exact d_nil
  | cons h1 h2 _ ih => exact d_cons h1 ih (starEach_cons h2)
theorem nil_imp (σ : St) (H : Hp) (Q : List V → Hp → Prop) (h : tDH c 0 (eL []) σ H Q) : tNil σ H Q := by
  obtain ⟨F, ρ, E, Qd, rp, hw, xc, k⟩ := h
  exact k [] H ρ [] [] rfl Nx.refl (by rw [FL_nil]; exact rp) .nil (fun _ z => absurd z (by simp)) hw
theorem Sns.pk (h : Sns c X es ws) : ∀ {kws : List Keyword}, kwV kws = es → PK X kws (tDH c ws.length (eL ws)) := by
  induction h with
  | nil =>
    intro kws e
    cases kws with
    | nil => exact pk_nil.imp nil_imp
    | cons k ks => cases e
  | cons h1 h2 _ ih =>
    intro kws e
    cases kws with
    | nil => cases e
    | cons k ks =>
      obtain ⟨nm, v, kp⟩ := k
      simp only [kwV, List.cons.injEq] at e
      obtain ⟨rfl, e⟩ := e
      exact (pk_cons h1 (ih e)).imp cons_imp
theorem Sns.plain (h : Sns c X es ws) : (backTo pos (starEach es X.env)).any (·.1) = false := by
  induction h with
  | nil => rfl
  | cons h1 h2 _ ih =>
    rw [starEach_cons h2]
    simp only [backTo, List.map_cons, List.any_cons, Bool.false_or] at ih ⊢
    exact ih
theorem Sns.head (h : Sns c X (e :: es) ws) : starEach (e :: es) X.env = (false, eval e X.env) :: starEach es X.env := by cases h with | cons _ h2 _ => exact starEach_cons h2
theorem Sns.tail (h : Sns c X (e :: es) ws) : ∃ ws', Sns c X es ws' := by cases h with | cons _ _ h3 => exact ⟨_, h3⟩
theorem gn_ok {f : String} {g : Expr} (h : gName? sc f g = true) : ∃ p, g = .Name (Str.ofString f) p ∧ sc.lookup (Str.ofString f) = some .globalImplicit ∧ ((Str.ofString f) == ("__debug__" : Str)) = false ∧ Str.ofString f ≠ "__name__" := by
  cases g <;> simp only [gName?] at h <;> first | cases h | skip
  rename_i id p
  simp only [Bool.and_eq_true, okN, Bool.not_eq_true', decide_eq_true_eq] at h
  obtain ⟨⟨h1, h2⟩, ⟨h3, h4⟩, h5⟩ := h
  obtain rfl := beq_iff_eq.mp h1
  exact ⟨p, rfl, h2, h3, fun q => by rw [q] at h5; revert h5; decide +kernel⟩
/-! calls of defs -/
theorem n_call (g : Gd T Γ c sc fn X) {f : String} {h : Expr} (hn : gName? sc f h = true) (hf : T.isF f n = true) (hs : Sns c X xs ws) (hl : ws.length = n) : PE X (.Call h xs [] pos) (tD c (callW (Γ f) ws)) := by
  obtain ⟨p, rfl, h1, h2, h3⟩ := gn_ok hn
  obtain ⟨CX, k, fa, fd, ps, c1, c2, c3, c4, c5, c6, c7, c8, c9⟩ := (g.call f n (of_decide_eq_true hf)).ex
  subst hl
  cases hs with
  | nil => exact d_call g.K (g_call0 c1 g.gd c2 (g.gl h1) c3 c4 c5 c7 h2) nil_imp
  | cons a1 a2 a3 => exact d_call g.K (g_call c1 g.gd c2 (g.gl h1) c3 c4 c5 c7 (Sns.cons a1 a2 a3).pa h2 (starEach_cons a2) a3.plain) fun _ _ _ q => q
theorem n_callIo (g : Gd T Γ c sc fn X) {f : String} {h : Expr} {w0 : W4} (hn : gName? sc f h = true) (hf : T.isF f (n + 1) = true) (ha : PE X x (tD c w0.e)) (hx : noStar x = true) (hs : Sns c X xs ws) (hl : ws.length = n) : PE X (.Call h (x :: xs) [] pos) (tD c (callIoW (Γ f) w0 ws)) := by
  obtain ⟨p, rfl, h1, h2, h3⟩ := gn_ok hn
  obtain ⟨CX, k, fa, fd, ps, c1, c2, c3, c4, c5, c6, c7, c8, c9⟩ := (g.call f (n + 1) (of_decide_eq_true hf)).ex
  subst hl
  exact d_callIo g.K (g_call c1 g.gd c2 (g.gl h1) c3 c4 c5 c7 (Sns.cons ha hx hs).pa h2 (starEach_cons hx) hs.plain) fun _ _ _ q => q
theorem kw_all : ∀ {ps : List Str} {kws : List Keyword} {env : Env}, kwB ps kws = true → (backToKw pos (keywordEach kws env)).all (·.1.isSome) = true ∧ (backToKw pos (keywordEach kws env)).filterMap (·.1) = ps ∧ (backToKw pos (keywordEach kws env)).any (·.1.isNone) = false
  | [], [], _, _ => ⟨rfl, rfl, rfl⟩
  | [], _ :: _, _, h => by cases h
  | _ :: _, [], _, h => by cases h
  | p :: ps, ⟨nm, v, kp⟩ :: ks, env, h => by
    simp only [kwB, Bool.and_eq_true, decide_eq_true_eq] at h
    obtain ⟨h1, h2⟩ := h
    have h1 : nm = some p := h1
    subst h1
    obtain ⟨i1, i2, i3⟩ := kw_all (env := env) h2
    simp only [backToKw, keywordEach, List.map_cons, List.all_cons, List.filterMap_cons, List.any_cons, Option.isSome_some, Option.isNone_some, Bool.true_and, Bool.false_or] at i1 i2 i3 ⊢
    exact ⟨i1, by rw [i2], i3⟩
theorem n_callK (g : Gd T Γ c sc fn X) {f : String} {h : Expr} {qs : List Str} {kws : List Keyword} (hn : gName? sc f h = true) (hf : T.isF f n = true) (hp : T.pars.lookup f = some qs) (hk : kwB qs kws = true) (hs : Sns c X (kwV kws) ws) (hl : ws.length = n) :
    PE X (.Call h [] kws pos) (tD c (callW (Γ f) ws)) := by
  obtain ⟨p, rfl, h1, h2, h3⟩ := gn_ok hn
  obtain ⟨CX, k, fa, fd, ps, c1, c2, c3, c4, c5, c6, c7, c8, c9⟩ := (g.call f n (of_decide_eq_true hf)).ex
  subst hl
  obtain ⟨rfl, c10⟩ := c8 qs hp
  obtain ⟨k1, k2, k3⟩ := kw_all (pos := pos) (env := X.env) hk
  exact d_call g.K (g_callK c1 g.gd c2 (g.gl h1) c3 c4 c10 c7 (hs.pk rfl) k1 k2 h2 (by rw [k3]; rfl)) fun _ _ _ q => q
/-! built-ins -/
theorem n_bi (g : Gd T Γ c sc fn X) {nm : String} {id : String} {gg : List D → KR → Prop} {h : Expr} (hc : CallR X (.builtin id) (rBi X.K gg)) (hv : bootBuiltins (Str.ofString nm) = some (.builtin id)) (hn : gName? sc nm h = true) (hb : T.blt.contains nm = true) (hs : Sns c X (x :: xs) ws) :
    PE X (.Call h (x :: xs) [] pos) (tD c fun E ρ Q => eL ws E ρ fun rs ρ1 => withs ρ1 rs fun ds => gg ds fun z => Q z ρ1) := by
  obtain ⟨p, rfl, h1, h2, h3⟩ := gn_ok hn
  obtain ⟨ws', h4⟩ := hs.tail
  exact d_bi g.K (pe_callB hc (g.gl h1) (g.blt _ hb) hv hs.pa h3 h2 hs.head h4.plain) fun _ _ _ q => q
theorem n_ty (g : Gd T Γ c sc fn X) {nm : String} {id : String} {gg : List D → KR → Prop} {h : Expr} (hc : CallR X (.type id) (rBi X.K gg)) (hv : bootBuiltins (Str.ofString nm) = some (.type id)) (hn : gName? sc nm h = true) (hb : T.blt.contains nm = true) (hs : Sns c X (x :: xs) ws) :
    PE X (.Call h (x :: xs) [] pos) (tD c fun E ρ Q => eL ws E ρ fun rs ρ1 => withs ρ1 rs fun ds => gg ds fun z => Q z ρ1) := by
  obtain ⟨p, rfl, h1, h2, h3⟩ := gn_ok hn
  obtain ⟨ws', h4⟩ := hs.tail
  exact d_bi g.K (pe_callTy hc (g.gl h1) (g.blt _ hb) hv hs.pa h3 h2 hs.head h4.plain) fun _ _ _ q => q
theorem n_is (g : Gd T Γ c sc fn X) {ty : String} {f : D → Bool} {h t : Expr} (kT : ∀ d, kitB (tyD d) ty = some (f d)) (hv : bootBuiltins (Str.ofString ty) = some (.type ty)) (hn : gName? sc "isinstance" h = true) (hb : T.blt.contains "isinstance" = true) (hn2 : gName? sc ty t = true) (hb2 : T.blt.contains ty = true) (ha : PE X x (tD c w)) (hx : noStar x = true) :
    PE X (.Call h [x, t] [] pos) (tD c fun E ρ Q => w E ρ fun r ρ1 => withs ρ1 [r] fun ds => bIs f ds fun z => Q z ρ1) := by
  obtain ⟨p, rfl, h1, h2, h3⟩ := gn_ok hn
  obtain ⟨p2, rfl, h4, h5, h6⟩ := gn_ok hn2
  exact d_is g.K kT (g.gl h1) (g.blt _ hb) (g.gl h4) (g.blt _ hb2) hv h6 h5 ha (starEach_cons hx)
end
end DL
/-! DL28: the check of expressions is sound. -/
namespace DL
open PySem PySem.Spec PyProof.Rows L2
section
variable {T : Tb} {Γ : Gam} {c : Cf} {sc : Sc} {fn : Str → Bool} {X : Cx} {e : Expr}
theorem lit_ok {d : D} (g : Gd T Γ c sc fn X) (h : litB d e = true) : PE X e (tD c fun _ ρ Q => Q (.dat d) ρ) ∧ byVal e = true := by
  unfold litB at h
  split at h
  · obtain rfl := of_decide_eq_true h; exact ⟨d_val pe_int fun _ _ => .int _, rfl⟩
  · obtain rfl := beq_iff_eq.mp h; exact ⟨d_val pe_bl fun _ _ => .bl _, rfl⟩
  · obtain rfl := of_decide_eq_true h; exact ⟨d_val pe_str fun _ _ => .str _, rfl⟩
  · exact ⟨d_val pe_non fun _ _ => .non, rfl⟩
  · cases h
theorem var_ok {i : Nat} {id : Str} {p : Pos} (g : Gd T Γ c sc fn X) (h1 : T.N[i]? = some id) (h2 : isVis sc id = true) (h3 : okN id = true) : PE X (.Name id p) (tVar i) := by
  simp only [okN, Bool.and_eq_true, Bool.not_eq_true'] at h3
  exact pe_var (by rw [g.N]; exact h1) (g.vis h2) h3.1.1 h3.1.2
theorem len_wps : ∀ (es : List Ex), (wps Γ es).length = es.length
  | [] => rfl
  | _ :: es => by simp only [wps, List.length_cons, len_wps es]
theorem bi_sn (g : Gd T Γ c sc fn X) {b : Bi} {h x : Expr} {xs : List Expr} {ws : List W4} {pos : Pos} (hi : isIs b = false) (hn : gName? sc (biN b) h = true) (hb : T.knows b = true) (hs : Sns c X (x :: xs) ws) : PE X (.Call h (x :: xs) [] pos) (tD c fun E ρ Q => eL ws E ρ fun rs ρ1 => withs ρ1 rs fun ds => biD b ds fun z => Q z ρ1) := by
  have hu := g.un
  cases b <;> first | cases hi | skip
  · exact n_bi g b_len (by decide +kernel) hn hb hs
  · exact n_ty g b_tuple (by decide +kernel) hn hb hs
  · exact n_ty g b_list (by decide +kernel) hn hb hs
  · exact n_bi g b_abs (by decide +kernel) hn hb hs
  · exact n_ty g b_int (by decide +kernel) hn hb hs
  · exact n_bi g b_divmod (by decide +kernel) hn hb hs
  · obtain ⟨p, rfl, h1, h2, h3⟩ := gn_ok hn
    obtain ⟨ws', h4⟩ := hs.tail
    exact d_bi g.K (pe_callBfun b_gcd (g.gl h1) (g.gcd hb) hs.pa h2 hs.head h4.plain) fun _ _ _ q => q
  · exact n_bi g (b_repr g.gd hu) (by decide +kernel) hn hb hs
  · exact n_bi g (b_sum g.calm) (by decide +kernel) hn hb hs
  · exact n_bi g b_sorted (by decide +kernel) hn hb hs
  · exact n_bi g (b_all g.calm) (by decide +kernel) hn hb hs
  · exact n_bi g (b_any g.calm) (by decide +kernel) hn hb hs
  · exact n_bi g (b_max g.calm) (by decide +kernel) hn hb hs
  · exact n_bi g (b_min g.calm) (by decide +kernel) hn hb hs
  · cases hb
theorem is_sn (g : Gd T Γ c sc fn X) {b : Bi} {h x t : Expr} {w : W4} {pos : Pos} (hi : isIs b = true) (hn : gName? sc "isinstance" h = true) (hb : T.blt.contains "isinstance" = true) (hn2 : gName? sc (biN b) t = true) (hb2 : T.blt.contains (biN b) = true) (ha : PE X x (tD c w.e)) (hx : noStar x = true) :
    PE X (.Call h [x, t] [] pos) (tD c fun E ρ Q => eL [w] E ρ fun rs ρ1 => withs ρ1 rs fun ds => biD b ds fun z => Q z ρ1) := by
  cases b <;> first | cases hi | skip
  · exact n_is g k_int (by decide +kernel) hn hb hn2 hb2 ha hx
  · exact n_is g k_bool (by decide +kernel) hn hb hn2 hb2 ha hx
  · exact n_is g k_tuple (by decide +kernel) hn hb hn2 hb2 ha hx
  · exact n_is g k_str (by decide +kernel) hn hb hn2 hb2 ha hx
  · exact n_is g k_list (by decide +kernel) hn hb hn2 hb2 ha hx
theorem blk_ok {scope : Scope} {O : List Nat} (g : Gd T Γ c sc fn X) (h : blkB T.N sc scope O = true) : BlkOk X.N X.env.scope scope (O.map fun j => ((T.N[j]?).getD (Str.ofString ""), j)) ∧ scope.kind = .function := by
  simp only [blkB, Bool.and_eq_true, decide_eq_true_eq, List.all_eq_true] at h
  obtain ⟨⟨⟨h1, h2⟩, h3⟩, h4⟩ := h
  have own : ∀ (y : Str), (O.any (fun j => decide (T.N[j]? = some y)) || !(T.N.contains y)) = true → y ∈ (O.map fun j => ((T.N[j]?).getD (Str.ofString ""), j)).map (·.1) ∨ y ∉ X.N := fun y q => by
    simp only [Bool.or_eq_true, List.any_eq_true, decide_eq_true_eq, Bool.not_eq_true'] at q
    rcases q with ⟨j, hj, e⟩ | q
    · exact .inl (List.mem_map.mpr ⟨_, List.mem_map.mpr ⟨j, hj, rfl⟩, by rw [e]; rfl⟩)
    · refine .inr fun m => ?_
      rw [g.N] at m
      rw [List.contains_iff_mem.mpr m] at q; cases q
  refine ⟨⟨h1, h2, fun q hq => ?_, fun y hy e => ?_, fun y hy e => ?_⟩, h1⟩
  · obtain ⟨j, hj, rfl⟩ := List.mem_map.mp hq
    rw [g.N]
    have := h3 j hj
    cases e : T.N[j]? with
    | none => rw [e] at this; cases this
    | some z => rfl
  · have := h4 y hy
    rw [e] at this
    rw [g.nm]
    simpa using this
  · have := h4 y hy
    rcases e with e | e <;> rw [e] at this <;> exact own _ this
theorem n1_ok {N : List Str} {i : Nat} {y : Str} {p : Pos} (hN : X.N = N) (nd : N.Nodup) (nm : X.env.scope.names = sc) (hf : ∀ x, fn x = true → X.fn x = true) (h : ckN1 N sc fn i (.Name y p) = true) : PG X (.Name y p) (gName i) := by
  simp only [ckN1, Bool.and_eq_true, Bool.or_eq_true, decide_eq_true_eq] at h
  obtain ⟨h1, h2⟩ := h
  refine pg_name (by rw [hN]; exact nd) (by rw [hN]; exact h1) ?_ ?_
  · show L2.Loc _ _; unfold L2.Loc; rw [nm]; exact h2.imp id And.left
  · rw [nm]; exact h2.symm.imp (fun q => hf _ q.2) id
end
end DL
/-! DL29: the check of expressions is sound. -/
namespace DL
open PySem PySem.Spec PyProof.Rows L2
theorem ns_ok {N : List Str} {sc : Sc} {fn : Str → Bool} {X : Cx} {K : PySem.W.Frag} (hN : X.N = N) (nd : N.Nodup) (nm : X.env.scope.names = sc) (hf : ∀ x, fn x = true → X.fn x = true) :
    ∀ (ts : List Tn) (es : List Expr), ckNs N sc fn ts es = true → PGs X es (gsOf K ts) ∧ (assignEach es X.env).length = ts.length ∧ (assignEach es X.env).findIdx? (·.1) = none
  | [], [], _ => ⟨pgs_nil, rfl, rfl⟩
  | [], _ :: _, h => by cases h
  | .name i :: ts, e :: es, h => by
    simp only [ckNs, Bool.and_eq_true] at h
    obtain ⟨h1, h2⟩ := h
    cases e <;> simp only [ckN1] at h1 <;> first | cases h1 | skip
    obtain ⟨i1, i2, i3⟩ := ns_ok hN nd nm hf ts es h2
    refine ⟨pgs_cons (n1_ok hN nd nm hf h1) i1, ?_, ?_⟩
    · rw [assign_cons rfl]; simp [i2]
    · rw [assign_cons rfl, List.findIdx?_cons]; simp [i3]
  | .name _ :: _, [], h => by cases h
  | .tup _ :: _, _, h => by simp [ckNs] at h
theorem n_ok {N : List Str} {sc : Sc} {fn : Str → Bool} {X : Cx} {K : PySem.W.Frag} (hN : X.N = N) (nd : N.Nodup) (nm : X.env.scope.names = sc) (hf : ∀ x, fn x = true → X.fn x = true) (hc : X.calm = true) (hK : X.K = K) :
    ∀ (t : Tn) (e : Expr), ckN N sc fn t e = true → PG X e (gOf K t)
  | .name i, e, h => by
    cases e <;> simp only [ckN, ckN1] at h <;> first | cases h | skip
    exact n1_ok hN nd nm hf h
  | .tup ts, e, h => by
    cases e <;> simp only [ckN] at h <;> first | cases h | skip
    obtain ⟨i1, i2, i3⟩ := ns_ok (K := K) hN nd nm hf ts _ h
    have := pg_tup (k := ‹Nat›) (pos := ‹Pos›) hc i1 i2 i3
    rw [hK] at this
    exact this
section
variable {T : Tb} {Γ : Gam}
mutual
theorem ck_ok : ∀ (q : Ex) {c : Cf} {sc : Sc} {fn : Str → Bool} {X : Cx} {e : Expr}, Gd T Γ c sc fn X → ck T q sc e = true → Sn c X (needT q) e (wp Γ q)
  | .lit d, c, sc, fn, X, e, g, h => by
    simp only [ck] at h
    obtain ⟨h1, h2⟩ := lit_ok g h
    exact .val g h1 h2
  | .con x d, c, sc, fn, X, e, g, h => by
    simp only [ck, Bool.and_eq_true] at h
    obtain ⟨h1, h2⟩ := h
    split at h2
    · rename_i d' e'
      obtain rfl := eqD_eq _ _ h2
      obtain ⟨p, rfl, h3, h4, h5⟩ := gn_ok h1
      obtain ⟨u, v, g1, g2, g3⟩ := g.con _ _ e'
      exact .val g (d_val (pe_glob (g.gl h3) g1 g2 h4) g3) rfl
    · cases h2
  | .var i, c, sc, fn, X, e, g, h => by
    simp only [ck] at h
    split at h
    · simp only [Bool.and_eq_true, decide_eq_true_eq] at h
      exact .val g (d_var (var_ok g h.1.1 h.1.2 h.2)) rfl
    · cases h
  | .op2 o a b, c, sc, fn, X, e, g, h => by
    simp only [ck] at h
    split at h
    · simp only [Bool.and_eq_true, decide_eq_true_eq] at h
      obtain ⟨⟨rfl, h1⟩, h2⟩ := h
      exact .val g (d_op2 (ck_ok a g h1).ex (ck_ok b g h2).ex g.K) rfl
    · cases h
  | .repL es n, c, sc, fn, X, e, g, h => by
    simp only [ck] at h
    split at h
    · simp only [Bool.and_eq_true, decide_eq_true_eq] at h
      obtain ⟨⟨⟨rfl, h1⟩, h2⟩, h3⟩ := h
      have := (cks_ok es g h1).pa
      rw [len_wps] at this
      exact .val g (d_repL (ns := []) h2 this (ck_ok n g h3).ex) rfl
    · cases h
  | .cmp o a b, c, sc, fn, X, e, g, h => by
    simp only [ck] at h
    split at h
    · simp only [Bool.and_eq_true, decide_eq_true_eq] at h
      obtain ⟨⟨⟨rfl, h1⟩, h2⟩, h3⟩ := h
      have hu := g.un
      exact .of g (d_cmp (ck_ok a g h1).ex (ck_ok b g h2).ex g.K (by omega) (behind h3)) (t_cmp (ck_ok a g h1).ex (ck_ok b g h2).ex g.K (by omega) (behind h3))
    · cases h
  | .isN a, c, sc, fn, X, e, g, h => by
    simp only [ck] at h
    split at h
    · exact .of g (d_isN (ck_ok a g h).ex) (t_isN (ck_ok a g h).ex)
    · cases h
  | .notN a, c, sc, fn, X, e, g, h => by
    simp only [ck] at h
    split at h
    · exact .of g (d_notN (ck_ok a g h).ex) (t_notN (ck_ok a g h).ex)
    · cases h
  | .chain o o' a b q, c, sc, fn, X, e, g, h => by
    simp only [ck] at h
    split at h
    · simp only [Bool.and_eq_true, decide_eq_true_eq] at h
      obtain ⟨⟨⟨⟨⟨rfl, rfl⟩, h1⟩, h2⟩, h3⟩, h4⟩ := h
      have hu := g.un
      exact .of g (d_chain (ck_ok a g h1).ex (ck_ok b g h2).ex (ck_ok q g h3).ex g.K (by omega) (marks h4)) (t_chain (ck_ok a g h1).ex (ck_ok b g h2).ex (ck_ok q g h3).ex g.K (by omega) (marks h4))
    · cases h
  | .neg a, c, sc, fn, X, e, g, h => by
    simp only [ck] at h
    split at h
    · exact .val g (d_neg (ck_ok a g h).ex) rfl
    · cases h
  | .not a, c, sc, fn, X, e, g, h => by
    simp only [ck] at h
    split at h
    · simp only [Bool.and_eq_true] at h
      exact ⟨d_not (ck_ok a g h.1).ex, fun _ => t_not ((ck_ok a g h.1).t h.2), fun _ _ => pi_no fun _ _ _ q => q, fun _ _ => pf_no fun _ _ _ q => q⟩
    · cases h
  | .and a b, c, sc, fn, X, e, g, h => by
    simp only [ck] at h
    split at h
    · rename_i x y r p
      simp only [Bool.and_eq_true] at h
      obtain ⟨⟨h1, h2⟩, h3⟩ := h
      have sa := ck_ok a g h1
      have sb : PE X (.BoolOp .And (y :: r) p) (tD c (wp Γ b).e) ∧ PW X (.BoolOp .And (y :: r) p) (tDT c (wp Γ b).t) := by
        cases r with
        | nil =>
          simp only [Bool.and_eq_true] at h3
          have s := ck_ok b g h3.1
          exact ⟨pe_one s.ex, pw_and1 (s.t h3.2)⟩
        | cons z r =>
          have s := ck_ok b g h3
          exact ⟨s.ex, pw_of (s.t rfl)⟩
      exact ⟨d_and sa.ex sb.1, fun _ => (t_and (sa.t h2) sb.2).pt, fun _ _ => pi_no fun _ _ _ q => q, fun _ _ => pf_no fun _ _ _ q => q⟩
    · cases h
  | .or a b, c, sc, fn, X, e, g, h => by
    simp only [ck] at h
    split at h
    · rename_i x y r p
      simp only [Bool.and_eq_true] at h
      obtain ⟨⟨h1, h2⟩, h3⟩ := h
      have sa := ck_ok a g h1
      have sb : PE X (.BoolOp .Or (y :: r) p) (tD c (wp Γ b).e) ∧ PW X (.BoolOp .Or (y :: r) p) (tDT c (wp Γ b).t) := by
        cases r with
        | nil =>
          simp only [Bool.and_eq_true] at h3
          have s := ck_ok b g h3.1
          exact ⟨pe_one s.ex, pw_or1 (s.t h3.2)⟩
        | cons z r =>
          have s := ck_ok b g h3
          exact ⟨s.ex, pw_of (s.t rfl)⟩
      exact ⟨d_or sa.ex sb.1, fun _ => (t_or (sa.t h2) sb.2).pt, fun _ _ => pi_no fun _ _ _ q => q, fun _ _ => pf_no fun _ _ _ q => q⟩
    · cases h
  | .ife q a b, c, sc, fn, X, e, g, h => by
    simp only [ck] at h
    split at h
    · simp only [Bool.and_eq_true] at h
      obtain ⟨⟨⟨h1, h2⟩, h3⟩, h4⟩ := h
      have := d_ife (pos := ‹Pos›) ((ck_ok q g h1).t h2) (ck_ok a g h3).ex (ck_ok b g h4).ex
      exact ⟨this, fun z => (by cases z), fun _ _ => i_seq g.K this, fun _ _ => f_seq g.K this⟩
    · cases h
  | .tup es, c, sc, fn, X, e, g, h => by
    simp only [ck] at h
    split at h
    · simp only [Bool.and_eq_true, decide_eq_true_eq] at h
      have := (cks_ok es g h.1).pa
      rw [len_wps] at this
      exact .val g (d_tup h.2 this) rfl
    · cases h
  | .lst es, c, sc, fn, X, e, g, h => by
    simp only [ck] at h
    split at h
    · simp only [Bool.and_eq_true, decide_eq_true_eq] at h
      have := (cks_ok es g h.1).pa
      rw [len_wps] at this
      exact .val g (d_lst h.2 this) rfl
    · cases h
  | .idx a b, c, sc, fn, X, e, g, h => by
    simp only [ck] at h
    split at h
    · simp only [Bool.and_eq_true] at h
      exact .val g (d_idx (ck_ok a g h.1.1).ex (ck_ok b g h.1.2).ex g.K (plainIx h.2)) rfl
    · cases h
  | .slc a lo hi, c, sc, fn, X, e, g, h => by
    simp only [ck] at h
    split at h
    · simp only [Bool.and_eq_true] at h
      exact .val g (d_slc g.K (ck_ok a g h.1.1).ex (cko_ok lo g h.1.2).1 (cko_ok hi g h.2).1) rfl
    · cases h
  | .call f es, c, sc, fn, X, e, g, h => by
    simp only [ck] at h
    split at h
    · simp only [Bool.and_eq_true] at h
      exact .val g (n_call g h.1.1 h.1.2 (cks_ok es g h.2) (len_wps es)) rfl
    · cases h
  | .callK f ks es, c, sc, fn, X, e, g, h => by
    simp only [ck] at h
    split at h
    · simp only [Bool.and_eq_true] at h
      obtain ⟨⟨⟨h1, h2⟩, h3⟩, h4⟩ := h
      split at h3
      · rename_i ps ep
        exact .val g (n_callK g h1 h2 ep h3 (cks_ok es g h4) (len_wps es)) rfl
      · cases h3
    · cases h
  | .callIo f a es, c, sc, fn, X, e, g, h => by
    simp only [ck] at h
    split at h
    · simp only [Bool.and_eq_true] at h
      obtain ⟨⟨⟨⟨h1, h2⟩, h3⟩, h4⟩, h5⟩ := h
      exact .val g (n_callIo g h1 h2 (ck_ok a g h3).ex h4 (cks_ok es g h5) (len_wps es)) rfl
    · cases h
  | .bi b es, c, sc, fn, X, e, g, h => by
    simp only [ck] at h
    split at h
    · rename_i gx xs p
      cases hi : isIs b with
      | true =>
        rw [hi] at h
        dsimp only at h
        split at h
        · rename_i q x t
          simp only [Bool.and_eq_true] at h
          obtain ⟨⟨⟨⟨h1, h2⟩, h3⟩, h4⟩, h5⟩ := h
          have s := cks_ok [q] g h5
          simp only [wps] at s
          cases s with
          | cons s1 s2 _ => exact .val g (is_sn g hi h1 h2 h3 h4 s1 s2) rfl
        · cases h
      | false =>
        rw [hi] at h
        simp only [Bool.and_eq_true, decide_eq_true_eq] at h
        obtain ⟨⟨⟨h1, h2⟩, h3⟩, h4⟩ := h
        have s := cks_ok es g h3
        cases xs with
        | nil =>
          have := s.len
          rw [len_wps] at this
          simp at this
          omega
        | cons x xs => exact .val g (bi_sn g hi h1 h2 s) rfl
    · cases h
  | .comp elt tg it ifs own, c, sc, fn, X, e, g, h => by
    simp only [ck] at h
    split at h
    · rename_i x t i fs scope p
      simp only [Bool.and_eq_true] at h
      obtain ⟨⟨⟨⟨⟨⟨⟨h1, h2⟩, h3⟩, h4⟩, h5⟩, h6⟩, h7⟩, h8⟩ := h
      obtain ⟨bo, hk⟩ := blk_ok g h4
      have om : (own.map fun j => (((T.N[j]?).getD (Str.ofString ""), j) : Str × Nat)).map (·.2) = own := by simp [List.map_map, Function.comp_def]
      have hnm : ∀ j ∈ tnNames tg, j ∈ (own.map fun j => (((T.N[j]?).getD (Str.ofString ""), j) : Str × Nat)).map (·.2) := fun j hj => by
        rw [om]
        exact List.contains_iff_mem.mp (List.all_eq_true.mp h6 j hj)
      have gb := fun s H C cl fp => g.blk s H scope hk C cl fp
      have test : ∀ s H C cl fp, PTs (X.blk s H scope (compEnvC scope cl C X.env) fp) fs (tDT c.quiet (match wpo Γ ifs with
          | none => fun _ ρ Q => Q true ρ
          | some w => w.t)) := fun s H C cl fp => by
        split at h7
        · split at h7
          · simp only [wpo]
            exact ⟨fun pins s σ H Q I ⟨F, ρ, E, Qd, rp, hw, xc, k⟩ => pts_nil.run pins s σ H Q I (k _ _ _ Nx.refl rp hw)⟩
          · cases h7
        · rename_i q
          simp only [Bool.and_eq_true] at h7
          obtain ⟨ho, hs⟩ := cko_ok ifs (gb s H C cl fp) h7.1
          obtain ⟨w, ew, nt, sw⟩ := hs q rfl
          rw [ew]
          exact pts_one (sw.t h7.2)
        · cases h7
      have := pe_lc (elt := x) (pos := p) (ifs := fs) g.calm (by rw [g.N]; exact g.nd) ((ck_ok it g h1).i t h3) bo
        (fun s H C cl fp => n_ok (gb s H C cl fp).N g.nd (gb s H C cl fp).nm (gb s H C cl fp).fn g.calm g.K tg t h5)
        test (fun s H C cl fp => (ck_ok elt (gb s H C cl fp) h8).ex) (folded h2)
      have := this.imp (comp_imp hnm)
      rw [om] at this
      exact .val g this rfl
    · cases h
  | .listR es, c, sc, fn, X, e, g, h => by
    simp only [ck] at h
    split at h
    · rename_i gx g2 x p2 p
      simp only [Bool.and_eq_true, decide_eq_true_eq] at h
      obtain ⟨⟨⟨⟨⟨h1, h2⟩, h3⟩, h4⟩, h5⟩, h6⟩ := h
      obtain ⟨q1, rfl, a1, a2, a3⟩ := gn_ok h1
      obtain ⟨q2, rfl, b1, b2, b3⟩ := gn_ok h3
      have s := cks_ok es g h6
      have hl := s.len
      cases es with
      | nil => cases h5
      | cons q qs =>
        cases qs with
        | cons _ _ => simp at h5
        | nil =>
          simp only [wps] at s
          cases s with
          | cons s1 s2 _ => exact .val g (d_listR1 g.calm (g.gl a1) (g.blt _ h2) (g.gl b1) (g.blt _ h4) s1 (starEach_cons s2) (starEach_cons rfl)) rfl
    · cases h
  | .listZ a b, c, sc, fn, X, e, g, h => by
    simp only [ck] at h
    split at h
    · rename_i gx g2 x y p2 p
      simp only [Bool.and_eq_true] at h
      obtain ⟨⟨⟨⟨⟨⟨⟨h1, h2⟩, h3⟩, h4⟩, h5⟩, h6⟩, h7⟩, h8⟩ := h
      obtain ⟨q1, rfl, a1, a2, a3⟩ := gn_ok h1
      obtain ⟨q2, rfl, b1, b2, b3⟩ := gn_ok h3
      have s : Sns c X [x, y] [wp Γ a, wp Γ b] := .cons (ck_ok a g h5).ex h6 (.cons (ck_ok b g h7).ex h8 .nil)
      obtain ⟨ws', s'⟩ := s.tail
      exact .val g (d_listZ g.K (pe_listZip g.calm (g.gl a1) (g.blt _ h2) (g.gl b1) (g.blt _ h4) s.pa s.head s'.plain (starEach_cons rfl))) rfl
    · cases h
  | .range es, c, sc, fn, X, e, g, h => by
    simp only [ck] at h
    split at h
    · rename_i gx x p
      simp only [Bool.and_eq_true, decide_eq_true_eq] at h
      obtain ⟨⟨⟨h1, h2⟩, h3⟩, h4⟩ := h
      obtain ⟨q1, rfl, a1, a2, a3⟩ := gn_ok h1
      have s := cks_ok es g h4
      have hp := s.pa
      rw [len_wps, h3] at hp
      have r := fun tg => rng_one (tg := tg) (p := q1) (pos := p) (g.gl a1) (g.blt _ h2) hp (s.head)
      exact ⟨pe_no fun _ _ _ q => q, fun _ => pt_no fun _ _ _ q => q, fun tg _ => (r tg).1, fun tg _ => (r tg).2⟩
    · rename_i gx x y p
      simp only [Bool.and_eq_true, decide_eq_true_eq] at h
      obtain ⟨⟨⟨h1, h2⟩, h3⟩, h4⟩ := h
      obtain ⟨q1, rfl, a1, a2, a3⟩ := gn_ok h1
      have s := cks_ok es g h4
      have hp := s.pa
      rw [len_wps, h3] at hp
      obtain ⟨ws', s'⟩ := s.tail
      have e1 : starEach [x, y] X.env = [(false, eval x X.env), (false, eval y X.env)] := by rw [s.head, s'.head]; rfl
      have r := fun tg => rng_two (tg := tg) (p := q1) (pos := p) (g.gl a1) (g.blt _ h2) hp e1 (s'.head)
      exact ⟨pe_no fun _ _ _ q => q, fun _ => pt_no fun _ _ _ q => q, fun tg _ => (r tg).1, fun tg _ => (r tg).2⟩
    · cases h
  | .enum a, c, sc, fn, X, e, g, h => by
    simp only [ck] at h
    split at h
    · rename_i gx x p
      simp only [Bool.and_eq_true] at h
      obtain ⟨⟨⟨h1, h2⟩, h3⟩, h4⟩ := h
      obtain ⟨q1, rfl, a1, a2, a3⟩ := gn_ok h1
      have s := ck_ok a g h3
      have r : ∀ tg, (!true || isTup tg) = true → PI X tg (.Call (.Name (Str.ofString "enumerate") q1) [x] [] p) (iSeqG c.K (IteA c.K) (tD c (wp Γ a).e)) := fun tg ht => by
        cases tg <;> first | cases ht | skip
        rw [← g.K]
        exact pi_enumA (g.gl a1) (g.blt _ h2) s.ex (starEach_cons h4)
      exact ⟨pe_no fun _ _ _ q => q, fun _ => pt_no fun _ _ _ q => q, fun tg ht => i_seqG kd_enum g.K (by rw [g.K]; exact r tg ht), fun tg ht => f_seqG kd_enum g.K (by rw [g.K]; exact r tg ht)⟩
    · cases h
  | .zip a b, c, sc, fn, X, e, g, h => by
    simp only [ck] at h
    split at h
    · rename_i gx x y p
      simp only [Bool.and_eq_true] at h
      obtain ⟨⟨⟨⟨⟨h1, h2⟩, h3⟩, h4⟩, h5⟩, h6⟩ := h
      obtain ⟨q1, rfl, a1, a2, a3⟩ := gn_ok h1
      have s : Sns c X [x, y] [wp Γ a, wp Γ b] := .cons (ck_ok a g h3).ex h4 (.cons (ck_ok b g h5).ex h6 .nil)
      obtain ⟨ws', s'⟩ := s.tail
      have r : ∀ tg, (!true || isTup tg) = true → PI X tg (.Call (.Name (Str.ofString "zip") q1) [x, y] [] p) (iZipG X.K (tDH c 2 (eL [wp Γ a, wp Γ b]))) := fun tg ht => by
        cases tg <;> first | cases ht | skip
        exact pi_zipG (g.gl a1) (g.blt _ h2) s.pa s.head s'.plain
      exact ⟨pe_no fun _ _ _ q => q, fun _ => pt_no fun _ _ _ q => q, fun tg ht => (fi_zip g.K (r tg ht)).1, fun tg ht => (fi_zip g.K (r tg ht)).2⟩
    · cases h
  | .rev a, c, sc, fn, X, e, g, h => by
    simp only [ck] at h
    split at h
    · rename_i gx x p
      simp only [Bool.and_eq_true] at h
      obtain ⟨⟨⟨h1, h2⟩, h3⟩, h4⟩ := h
      obtain ⟨q1, rfl, a1, a2, a3⟩ := gn_ok h1
      have s := ck_ok a g h3
      have r : ∀ tg, PI X tg (.Call (.Name (Str.ofString "reversed") q1) [x] [] p) (iSeqG X.K (ItvA X.K) (tD c (wp Γ a).e)) := fun tg => pi_revG (g.gl a1) (g.blt _ h2) s.ex d_mono (starEach_cons h4)
      exact ⟨pe_no fun _ _ _ q => q, fun _ => pt_no fun _ _ _ q => q, fun tg ht => i_seqG kd_rev g.K (by have := r tg; rw [g.K] at this ⊢; exact this), fun tg ht => f_seqG kd_rev g.K (by have := r tg; rw [g.K] at this ⊢; exact this)⟩
    · cases h
  | .pop i q, c, sc, fn, X, e, g, h => by
    simp only [ck] at h
    split at h
    · rename_i y p0 at_ p1 x p2
      simp only [Bool.and_eq_true, decide_eq_true_eq] at h
      obtain ⟨⟨⟨⟨⟨⟨rfl, h1⟩, h2⟩, h3⟩, h4⟩, h5⟩, h6⟩ := h
      obtain ⟨_, hs⟩ := cko_ok q g h5
      obtain ⟨w, ew, nt, sw⟩ := hs x rfl
      have pm := pe_bm (cpos := p2) (apos := p1) PySem.F.plainAttrs_list PySem.F.slot_list_pop PySem.F.type_list_pop mt_popAt (var_ok (p := p0) g h1 h2 h3) (pa_cons sw.ex pa_nil (starEach_cons h6)) rfl (by simp [starEach_cons h6, backTo, starEach, backToKw, keywordEach]) h4 (starEach_cons h6) rfl
      have := d_pop w.e pm
      refine .val g ?_ rfl
      rw [ew]
      exact this
    · cases h
  | .index a b, c, sc, fn, X, e, g, h => by
    simp only [ck] at h
    split at h
    · rename_i y p0 at_ p1 x p2
      simp only [Bool.and_eq_true, decide_eq_true_eq] at h
      obtain ⟨⟨⟨⟨rfl, h1⟩, h2⟩, h3⟩, h4⟩ := h
      have hu := g.un
      exact .val g (d_index g.K (pe_bm PySem.F.plainAttrs_list PySem.F.slot_list_index PySem.F.type_list_index (mt_indexD (by omega)) (ck_ok a g h1).ex (pa_cons (ck_ok b g h3).ex pa_nil (starEach_cons h4)) rfl (by simp [starEach_cons h4, backTo, starEach, backToKw, keywordEach]) h2 (starEach_cons h4) rfl)) rfl
    · cases h
  | .count _ _, c, sc, fn, X, e, g, h => by
    simp only [ck] at h
    cases h
theorem cks_ok : ∀ (es : List Ex) {c : Cf} {sc : Sc} {fn : Str → Bool} {X : Cx} {xs : List Expr}, Gd T Γ c sc fn X → cks T es sc xs = true → Sns c X xs (wps Γ es)
  | [], c, sc, fn, X, xs, g, h => by
    cases xs with
    | nil => exact .nil
    | cons _ _ => simp only [cks] at h; cases h
  | q :: es, c, sc, fn, X, xs, g, h => by
    cases xs with
    | nil => simp only [cks] at h; cases h
    | cons x xs =>
      simp only [cks, Bool.and_eq_true] at h
      simp only [wps]
      exact .cons (ck_ok q g h.1.1).ex h.1.2 (cks_ok es g h.2)
theorem cko_ok : ∀ (o : Option Ex) {c : Cf} {sc : Sc} {fn : Str → Bool} {X : Cx} {x : Option Expr}, Gd T Γ c sc fn X → cko T o sc x = true → PO X x (tDO c (optI (wpo Γ o))) ∧ ∀ q, x = some q → ∃ w, wpo Γ o = some w ∧ ∃ nt, Sn c X nt q w
  | none, c, sc, fn, X, x, g, h => by
    cases x with
    | none => exact ⟨by simp only [wpo]; exact o_none, fun _ q => by cases q⟩
    | some _ => simp only [cko] at h; cases h
  | some q, c, sc, fn, X, x, g, h => by
    cases x with
    | none => simp only [cko] at h; cases h
    | some x =>
      simp only [cko] at h
      simp only [wpo]
      exact ⟨o_some (ck_ok q g h).ex, fun y e => by cases e; exact ⟨_, rfl, _, ck_ok q g h⟩⟩
end
end
end DL
/-! DL30: the check of statements. -/
namespace DL
open PySem PySem.Spec PyProof.Rows L2
mutual
def ckT (T : Tb) (sc : Sc) (fn : Str → Bool) : Ta → Expr → Bool
  | .name i, e => ckN1 T.N sc fn i e
  | .sub i ix, e => match e with
    | .Subscript (.Name id _) x _ => decide (T.N[i]? = some id) && isVis sc id && okN id && ck T ix sc x && notSlice x
    | _ => false
  | .tup ts, e => match e with
    | .Tuple es _ _ => ckTs T sc fn ts es
    | _ => false
def ckTs (T : Tb) (sc : Sc) (fn : Str → Bool) : List Ta → List Expr → Bool
  | [], [] => true
  | t :: ts, e :: es => ckT T sc fn t e && noStar e && ckTs T sc fn ts es
  | _, _ => false
end
/-- a value for one target: whether it is bound as others are -/
def plainB (sc : Sc) (tg v : Expr) : Bool := match v with
  | .ListComp _ _ scope p => (match tg with
    | .Name y tp => !swB sc y tp scope p
    | _ => true)
  | .SetComp .. => false
  | .DictComp .. => false
  | _ => true
def par2 (N : List Str) (sc : Sc) (ts : List Ta) (tgs : List Expr) (ns : List Str) : Bool := match ts, tgs, ns with
  | [.name i, .name j], [.Name x _, .Name y _], [x', y'] => decide (x = x') && decide (y = y') && !(i == j) && decide (N[i]? = some x) && decide (N[j]? = some y) && decide (sc.lookup x = some .local) && decide (sc.lookup y = some .local)
  | [.name i, .name j, .name l], [.Name x _, .Name y _, .Name z _], [x', y', z'] => decide (x = x') && decide (y = y') && decide (z = z') && !(i == j) && !(i == l) && !(j == l) && decide (N[i]? = some x) && decide (N[j]? = some y) && decide (N[l]? = some z) &&
      decide (sc.lookup x = some .local) && decide (sc.lookup y = some .local) && decide (sc.lookup z = some .local)
  | _, _, _ => false
/-- x.m(..) of a name -/
def meth (N : List Str) (sc : Sc) (i : Nat) (m : Str) : Expr → Option (List Expr)
  | .Call (.Attribute (.Name id _) at_ p1) xs [] p2 => if decide (at_ = m) && decide (N[i]? = some id) && isVis sc id && okN id && (p1.endLine == p2.line) then some xs else none
  | _ => none
mutual
def ckS (T : Tb) (sc : Sc) (fn : Str → Bool) : Sm → Stmt → Bool
  | .asg t q, s => match s with
    | .Assign [tg] v pos => (match plainB sc tg v with
      | true => ckT T sc fn t tg && ck T q sc v && noStar tg && (notSeq tg || notTup v)
      | false => (match t, tg, v with
        | .name i, .Name y _, .ListComp _ [⟨_, _, _, 0⟩] _ _ => decide (T.N[i]? = some y) && ck T q sc v
        | _, _, _ => false))
    | _ => false
  | .par ts es, s => match s with
    | .Assign [.Tuple tgs _ _] (.Tuple vs _ _) pos => cks T es sc vs && decide (es.length ≤ 1000) && decide (ts.length = es.length) && (match swS sc tgs vs with
      | some none => ckTs T sc fn ts tgs
      | some (some ns) => par2 T.N sc ts tgs ns && decide (ns.length = es.length)
      | none => false)
    | _ => false
  | .aug i o q, s => match s with
    | .AugAssign (.Name y _) op v _ => decide (T.N[i]? = some y) && decide (sc.lookup y = some .local) && ck T q sc v && (match o, op with
      | .add, .Add => true
      | .sub, .Sub => true
      | _, _ => false)
    | _ => false
  | .expr q, s => match s with
    | .Expr v _ => ck T q sc v && notComp v
    | _ => false
  | .app i q, s => match s with
    | .Expr v _ => (match meth T.N sc i "append" v with
      | some [x] => ck T q sc x && noStar x
      | _ => false)
    | _ => false
  | .ext i q, s => match s with
    | .Expr v _ => (match meth T.N sc i "extend" v with
      | some [x] => ck T q sc x && noStar x
      | _ => false)
    | _ => false
  | .ins i a b, s => match s with
    | .Expr v _ => (match meth T.N sc i "insert" v with
      | some [x, y] => ck T a sc x && noStar x && ck T b sc y && noStar y
      | _ => false)
    | _ => false
  | .ret q, s => match s with
    | .Return (some v) _ => ck T q sc v
    | _ => false
  | .retN, s => match s with
    | .Return none _ => true
    | _ => false
  | .ite q a b, s => match s with
    | .If t l m _ => ck T q sc t && tst t && ckSs T sc fn a l && ckSs T sc fn b m
    | _ => false
  | .for_ t it b, s => match s with
    | .For tg i l [] _ => ckN T.N sc fn t tg && ck T it sc i && (!needT it || isTup tg) && notSet i && ckSs T sc fn b l
    | _ => false
  | .while_ q b, s => match s with
    | .While t l [] _ => ck T q sc t && tst t && ckSs T sc fn b l
    | _ => false
  | .raise_ _ _, _ => true
  | .brk, s => match s with
    | .Break _ => true
    | _ => false
  | .cont, s => match s with
    | .Continue _ => true
    | _ => false
  | .pass, s => match s with
    | .Pass _ => true
    | _ => false
def ckSs (T : Tb) (sc : Sc) (fn : Str → Bool) : List Sm → List Stmt → Bool
  | [], [] => true
  | q :: qs, s :: ss => ckS T sc fn q s && ckSs T sc fn qs ss
  | _, _ => false
end
end DL
/-! DL31: the check of statements is sound. -/
namespace DL
open PySem PySem.Spec PyProof.Rows L2
section
variable {T : Tb} {Γ : Gam} {c : Cf} {sc : Sc} {fn : Str → Bool} {X : Cx}
theorem assign_sub {o i : Expr} {p : Pos} {env : Env} (h : notSlice i = true) (v : Value) : assign (.Subscript o i p) env v = (do
      let ov ← holding [v] (eval o env)
      let iv ← holding [v, ov] (eval i env)
      standAt p
      holding [v, ov, iv] (setItem ov iv v)
      release [v, ov, iv] []) := by cases i <;> first | rfl | cases h
mutual
theorem ckT_ok (g : Gd T Γ c sc fn X) : ∀ (t : Ta) (e : Expr), ckT T sc fn t e = true → PG X e (gTa c Γ t)
  | .name i, e, h => by
    simp only [ckT] at h
    cases e <;> simp only [ckN1] at h <;> first | cases h | skip
    simp only [gTa]
    exact n1_ok g.N g.nd g.nm g.fn h
  | .sub i ix, e, h => by
    simp only [ckT] at h
    split at h
    · simp only [Bool.and_eq_true, decide_eq_true_eq] at h
      obtain ⟨⟨⟨⟨h1, h2⟩, h3⟩, h4⟩, h5⟩ := h
      simp only [gTa]
      exact pg_sub (var_ok g h1 h2 h3) (ck_ok ix g h4).ex set_list (assign_sub h5)
    · cases h
  | .tup ts, e, h => by
    simp only [ckT] at h
    split at h
    · obtain ⟨i1, i2, i3⟩ := ckTs_ok g ts _ h
      have := pg_tup (k := ‹Nat›) (pos := ‹Pos›) g.calm i1 i2 i3
      simp only [gTa]
      rw [g.K] at this
      exact this
    · cases h
theorem ckTs_ok (g : Gd T Γ c sc fn X) : ∀ (ts : List Ta) (es : List Expr), ckTs T sc fn ts es = true → PGs X es (gTas c Γ ts) ∧ (assignEach es X.env).length = ts.length ∧ (assignEach es X.env).findIdx? (·.1) = none
  | [], es, h => by
    cases es with
    | nil => simp only [gTas]; exact ⟨pgs_nil, rfl, rfl⟩
    | cons _ _ => simp only [ckTs] at h; cases h
  | t :: ts, es, h => by
    cases es with
    | nil => simp only [ckTs] at h; cases h
    | cons e es =>
      simp only [ckTs, Bool.and_eq_true] at h
      obtain ⟨⟨h1, h2⟩, h3⟩ := h
      obtain ⟨i1, i2, i3⟩ := ckTs_ok g ts es h3
      simp only [gTas]
      refine ⟨pgs_cons (ckT_ok g t e h1) i1 (by rw [assign_cons h2]; rfl), ?_, ?_⟩
      · rw [assign_cons h2]; simp [i2]
      · rw [assign_cons h2, List.findIdx?_cons]; simp [i3]
end
theorem plain_ok (g : Gd T Γ c sc fn X) {tg v : Expr} {l : Nat} (h : plainB sc tg v = true) : swapsWithSole [tg] v l X.env = pure false := by
  show swapsWith v (some tg) l X.env = _
  unfold plainB at h
  split at h
  · split at h
    · rw [swaps_lc g]
      simp only [Bool.not_eq_true'] at h
      rw [h]
    · rename_i hn
      refine swaps_other g ?_
      cases tg <;> first | rfl | exact (hn _ _ rfl).elim
  · cases h
  · cases h
  · refine noSwap ?_
    cases v <;> first | rfl | (rename_i hh _ _; exact (hh _ _ _ _ rfl).elim) | (rename_i _ hh _; exact (hh _ _ _ _ rfl).elim) | (rename_i _ _ hh; exact (hh _ _ _ _ _ rfl).elim)
theorem meth_ok (g : Gd T Γ c sc fn X) {i : Nat} {m : Str} {v : Expr} {xs : List Expr} (h : meth T.N sc i m v = some xs) : ∃ id p0 p1 p2, v = .Call (.Attribute (.Name id p0) m p1) xs [] p2 ∧ PE X (.Name id p0) (tVar i) ∧ (p1.endLine == p2.line) = true := by
  unfold meth at h
  split at h
  · rename_i id p0 at_ p1 xs' p2
    split at h
    · rename_i q
      cases h
      simp only [Bool.and_eq_true, decide_eq_true_eq] at q
      obtain ⟨⟨⟨⟨rfl, h1⟩, h2⟩, h3⟩, h4⟩ := q
      exact ⟨id, p0, p1, p2, rfl, var_ok g h1 h2 h3, h4⟩
    · cases h
  · cases h
theorem setLc_ok (g : Gd T Γ c sc fn X) {i : Nat} {elt : Ex} {tg : Tn} {it : Ex} {ifs : Option Ex} {own : List Nat} {y : Str} {py pos : Pos} {v : Expr} (hy : T.N[i]? = some y) (hp : plainB sc (.Name y py) v = false) (h : ck T (.comp elt tg it ifs own) sc v = true) :
    PS X (.Assign [.Name y py] v pos) (tDS c fun E d ρ => (wp Γ (.comp elt tg it ifs own)).e E ρ fun r ρ1 => asn Γ (.name i) r E ρ1 d.nx) := by
  refine s_name ?_
  simp only [ck] at h
  split at h
  · rename_i x t it' fs scope p
    simp only [Bool.and_eq_true] at h
    obtain ⟨⟨⟨⟨⟨⟨⟨h1, h2⟩, h3⟩, h4⟩, h5⟩, h6⟩, h7⟩, h8⟩ := h
    obtain ⟨bo, hk⟩ := blk_ok g h4
    have om : (own.map fun j => (((T.N[j]?).getD (Str.ofString ""), j) : Str × Nat)).map (·.2) = own := by simp [List.map_map, Function.comp_def]
    have hnm : ∀ j ∈ tnNames tg, j ∈ (own.map fun j => (((T.N[j]?).getD (Str.ofString ""), j) : Str × Nat)).map (·.2) := fun j hj => by
      rw [om]
      exact List.contains_iff_mem.mp (List.all_eq_true.mp h6 j hj)
    have gb := fun s H C cl fp => g.blk s H scope hk C cl fp
    have test : ∀ s H C cl fp, PTs (X.blk s H scope (compEnvC scope cl C X.env) fp) fs (tDT c.quiet (match wpo Γ ifs with
        | none => fun _ ρ Q => Q true ρ
        | some w => w.t)) := fun s H C cl fp => by
      split at h7
      · split at h7
        · simp only [wpo]
          exact ⟨fun pins s σ H Q I ⟨F, ρ, E, Qd, rp, hw, xc, k⟩ => pts_nil.run pins s σ H Q I (k _ _ _ Nx.refl rp hw)⟩
        · cases h7
      · rename_i q
        simp only [Bool.and_eq_true] at h7
        obtain ⟨ho, hs⟩ := cko_ok ifs (gb s H C cl fp) h7.1
        obtain ⟨w, ew, nt, sw⟩ := hs q rfl
        rw [ew]
        exact pts_one (sw.t h7.2)
      · cases h7
    simp only [plainB, Bool.not_eq_false'] at hp
    have hl : sc.lookup y = some .local := by
      simp only [swB, Bool.and_eq_true, decide_eq_true_eq] at hp
      exact hp.1.1
    have := ps_setLc (i := i) (y := y) (py := py) (spos := pos) (elt := x) (pos := p) (ifs := fs) g.calm (by rw [g.N]; exact g.nd) (by rw [g.N]; exact hy) (by rw [g.nm]; exact hl) (by rw [swaps_lc g, hp]) ((ck_ok it g h1).i t h3) bo
      (fun s H C cl fp => n_ok (gb s H C cl fp).N g.nd (gb s H C cl fp).nm (gb s H C cl fp).fn g.calm g.K tg t h5)
      test (fun s H C cl fp => (ck_ok elt (gb s H C cl fp) h8).ex) (folded h2)
    refine this.imp fun D σ H q => ?_
    have q' := comp_imp hnm σ H _ (by rw [om]; exact q)
    exact q'
  · cases h
end
end DL
/-! DL32: the check of statements is sound. -/
namespace DL
open PySem PySem.Spec PyProof.Rows L2
section
variable {T : Tb} {Γ : Gam} {c : Cf} {sc : Sc} {fn : Str → Bool} {X : Cx}
theorem par_ok (g : Gd T Γ c sc fn X) {ts : List Ta} {tgs vs : List Expr} {ns : List Str} {ws : List W4} {k k2 : Nat} {p p2 pos : Pos} (h : par2 T.N sc ts tgs ns = true) (hn : ns.length = ws.length) (hsw : swS sc tgs vs = some (some ns)) (hs : Sns c X vs ws) :
    PS X (.Assign [.Tuple tgs k p] (.Tuple vs k2 p2) pos) (tDS c fun E d ρ => eL ws E ρ fun rs ρ1 => settle rs ρ1 fun rs' ρ2 => asns Γ ts rs' E ρ2 d.nx) := by
  have hN : X.N.Nodup := by rw [g.N]; exact g.nd
  unfold par2 at h
  split at h
  · rename_i i j x px y py x' y'
    simp only [Bool.and_eq_true, decide_eq_true_eq, Bool.not_eq_true', beq_eq_false_iff_ne] at h
    obtain ⟨⟨⟨⟨⟨⟨rfl, rfl⟩, h3⟩, h4⟩, h5⟩, h6⟩, h7⟩ := h
    have hp := hs.pa
    simp only [List.length_cons, List.length_nil] at hn
    rw [← hn] at hp
    have hv := hs.len
    rw [← hn] at hv
    match vs, hv with
    | [a, b], _ => exact s_par2 (kt := k) (k2 := k2) g.calm hN (by rw [g.N]; exact h4) (by rw [g.N]; exact h5) h3 (by rw [g.nm]; exact h6) (by rw [g.nm]; exact h7) hp (swaps_tup g hsw)
  · rename_i i j l x px y py z pz x' y' z'
    simp only [Bool.and_eq_true, decide_eq_true_eq, Bool.not_eq_true', beq_eq_false_iff_ne] at h
    obtain ⟨⟨⟨⟨⟨⟨⟨⟨⟨⟨⟨rfl, rfl⟩, rfl⟩, h1⟩, h2⟩, h3⟩, h4⟩, h5⟩, h6⟩, h7⟩, h8⟩, h9⟩ := h
    have hp := hs.pa
    simp only [List.length_cons, List.length_nil] at hn
    rw [← hn] at hp
    have hv := hs.len
    rw [← hn] at hv
    match vs, hv with
    | [a, b, d], _ => exact s_par3 (kt := k) (k2 := k2) g.calm hN (by rw [g.N]; exact h4) (by rw [g.N]; exact h5) (by rw [g.N]; exact h6) h1 h2 h3 (by rw [g.nm]; exact h7) (by rw [g.nm]; exact h8) (by rw [g.nm]; exact h9) hp (swaps_tup g hsw)
  · cases h
theorem few (h : ∀ e, e ∈ ([] : List Expr) → True) {x : Expr} {es : List Expr} {ws : List W4} {p2 : Pos} (hs : Sns c X (x :: es) ws) (hl : ws.length < 30) : ((backTo p2 (starEach (x :: es) X.env)).all (fun x => !x.1) && (backToKw p2 (keywordEach [] X.env)).all (fun x => x.1.isSome)
      && decide ((x :: es).length + ([] : List Keyword).length + (if ([] : List Keyword).isEmpty then 0 else 1) < 30)) = true := by
  have h1 : (backTo p2 (starEach (x :: es) X.env)).all (fun x => !x.1) = true := by
    have := hs.plain (pos := p2)
    rw [List.any_eq_false] at this
    rw [List.all_eq_true]
    intro y hy
    have := this y hy
    simpa using this
  rw [h1]
  have h2 : decide ((x :: es).length + ([] : List Keyword).length + (if ([] : List Keyword).isEmpty then 0 else 1) < 30) = true := by
    have := hs.len
    rw [decide_eq_true_eq]
    simp at this ⊢
    omega
  rw [h2]
  rfl
mutual
theorem ckS_ok (g : Gd T Γ c sc fn X) : ∀ (q : Sm) (s : Stmt), ckS T sc fn q s = true → PS X s (tDS c (wpS Γ q))
  | .asg t q, s, h => by
    simp only [ckS] at h
    split at h
    · rename_i tg v pos
      cases hp : plainB sc tg v with
      | true =>
        rw [hp] at h
        simp only [Bool.and_eq_true, Bool.or_eq_true] at h
        obtain ⟨⟨⟨h1, h2⟩, h3⟩, h4⟩ := h
        simp only [wpS]
        exact s_asg (ck_ok q g h2).ex (ckT_ok g t tg h1) (plain_ok g hp) (h4.elim (fun z => noSwapS' z) fun z => noSwapS z) (assign_one h3)
      | false =>
        rw [hp] at h
        dsimp only at h
        split at h
        · rename_i i y py elt t' it' fs scope p
          simp only [Bool.and_eq_true, decide_eq_true_eq] at h
          obtain ⟨h1, h2⟩ := h
          cases q <;> first | (exact setLc_ok g h1 hp h2) | (exfalso; simp only [ck] at h2; first | cases h2 | (revert h2; simp [litB, gName?]) | (split at h2 <;> first | contradiction | cases h2))
        · cases h
    · cases h
  | .par ts es, s, h => by
    simp only [ckS] at h
    split at h
    · rename_i tgs k p vs k2 p2 pos
      simp only [Bool.and_eq_true, decide_eq_true_eq] at h
      obtain ⟨⟨⟨h1, h2⟩, h3⟩, h4⟩ := h
      have hs := cks_ok (Γ := Γ) es g h1
      simp only [wpS]
      split at h4
      · rename_i e
        obtain ⟨i1, i2, i3⟩ := ckTs_ok (Γ := Γ) g ts _ h4
        have hp := hs.pa
        rw [len_wps] at hp
        exact s_parT g.calm h2 hp i1 (by rw [i2, h3]) i3 (swaps_tup g e) (show swapsWith (.Tuple vs k2 p2) (some (.Tuple tgs k p)) pos.line X.env = pure false from noSwap rfl) rfl g.K
      · rename_i ns e
        simp only [Bool.and_eq_true, decide_eq_true_eq] at h4
        exact par_ok g h4.1 (by rw [len_wps]; exact h4.2) e hs
      · cases h4
    · cases h
  | .aug i o q, s, h => by
    simp only [ckS] at h
    split at h
    · rename_i y p op v pos
      simp only [Bool.and_eq_true, decide_eq_true_eq] at h
      obtain ⟨⟨⟨h1, h2⟩, h3⟩, h4⟩ := h
      have hN : X.N.Nodup := by rw [g.N]; exact g.nd
      have hl : X.env.scope.names.lookup y = some .local := by rw [g.nm]; exact h2
      split at h4
      · simp only [wpS]
        exact s_aug_add hN (by rw [g.N]; exact h1) (.inl hl) (ck_ok q g h3).ex (.inr hl)
      · simp only [wpS]
        exact s_aug_sub hN (by rw [g.N]; exact h1) (.inl hl) (ck_ok q g h3).ex (.inr hl)
      · cases h4
    · cases h
  | .expr q, s, h => by
    simp only [ckS] at h
    split at h
    · simp only [Bool.and_eq_true] at h
      simp only [wpS]
      exact s_expr (ck_ok q g h.1).ex (noSwap h.2)
    · cases h
  | .app i q, s, h => by
    simp only [ckS] at h
    split at h
    · rename_i v pos
      split at h
      · rename_i x em
        simp only [Bool.and_eq_true] at h
        obtain ⟨id, p0, p1, p2, rfl, hv, hline⟩ := meth_ok g em
        have hs : Sns c X [x] [wp Γ q] := .cons (ck_ok q g h.1).ex h.2 .nil
        simp only [wpS]
        refine s_app (ps_expr (pe_bm PySem.F.plainAttrs_list PySem.F.slot_list_append PySem.F.type_list_append mt_append hv (pa_cons (ck_ok q g h.1).ex pa_nil (starEach_cons h.2)) rfl (few (fun _ _ => trivial) hs (by simp)) hline hs.head rfl) rfl)
      · cases h
    · cases h
  | .ext i q, s, h => by
    simp only [ckS] at h
    split at h
    · rename_i v pos
      split at h
      · rename_i x em
        simp only [Bool.and_eq_true] at h
        obtain ⟨id, p0, p1, p2, rfl, hv, hline⟩ := meth_ok g em
        have hs : Sns c X [x] [wp Γ q] := .cons (ck_ok q g h.1).ex h.2 .nil
        simp only [wpS]
        refine s_ext (ps_expr (pe_bm PySem.F.plainAttrs_list PySem.F.slot_list_extend PySem.F.type_list_extend mt_extend hv (pa_cons (ck_ok q g h.1).ex pa_nil (starEach_cons h.2)) rfl (few (fun _ _ => trivial) hs (by simp)) hline hs.head rfl) rfl)
      · cases h
    · cases h
  | .ins i a b, s, h => by
    simp only [ckS] at h
    split at h
    · rename_i v pos
      split at h
      · rename_i x y em
        simp only [Bool.and_eq_true] at h
        obtain ⟨⟨⟨h1, h2⟩, h3⟩, h4⟩ := h
        obtain ⟨id, p0, p1, p2, rfl, hv, hline⟩ := meth_ok g em
        have hs : Sns c X [x, y] [wp Γ a, wp Γ b] := .cons (ck_ok a g h1).ex h2 (.cons (ck_ok b g h3).ex h4 .nil)
        simp only [wpS]
        refine s_ins (ps_expr (pe_bm PySem.F.plainAttrs_list PySem.F.slot_list_insert PySem.F.type_list_insert mt_insert hv (pa_cons (ck_ok a g h1).ex (pa_cons (ck_ok b g h3).ex pa_nil (starEach_cons h4)) (starEach_cons h2)) rfl (few (fun _ _ => trivial) hs (by simp)) hline hs.head (hs.tail.choose_spec.plain)) rfl)
      · cases h
    · cases h
  | .ret q, s, h => by
    simp only [ckS] at h
    split at h
    · simp only [wpS]; exact s_ret (ck_ok q g h).ex
    · cases h
  | .retN, s, h => by
    simp only [ckS] at h
    split at h
    · simp only [wpS]; exact s_retN
    · cases h
  | .ite q a b, s, h => by
    simp only [ckS] at h
    split at h
    · simp only [Bool.and_eq_true] at h
      obtain ⟨⟨⟨h1, h2⟩, h3⟩, h4⟩ := h
      simp only [wpS]
      exact s_ite ((ck_ok q g h1).t h2) (ckSs_ok g a _ h3) (ckSs_ok g b _ h4)
    · cases h
  | .for_ t it b, s, h => by
    simp only [ckS] at h
    split at h
    · simp only [Bool.and_eq_true] at h
      obtain ⟨⟨⟨⟨h1, h2⟩, h3⟩, h4⟩, h5⟩ := h
      simp only [wpS]
      exact s_for g.own g.calm ((ck_ok it g h2).f _ h3) (n_ok g.N g.nd g.nm g.fn g.calm g.K t _ h1) (ckSs_ok g b _ h5) (folded h4)
    · cases h
  | .while_ q b, s, h => by
    simp only [ckS] at h
    split at h
    · simp only [Bool.and_eq_true] at h
      obtain ⟨⟨h1, h2⟩, h3⟩ := h
      simp only [wpS]
      exact s_while g.own ((ck_ok q g h1).t h2) (ckSs_ok g b _ h3)
    · cases h
  | .raise_ _ _, s, h => by
    simp only [wpS]
    exact s_never
  | .brk, s, h => by
    simp only [ckS] at h
    split at h
    · simp only [wpS]; exact s_brk
    · cases h
  | .cont, s, h => by
    simp only [ckS] at h
    split at h
    · simp only [wpS]; exact s_cont
    · cases h
  | .pass, s, h => by
    simp only [ckS] at h
    split at h
    · simp only [wpS]; exact s_pass
    · cases h
theorem ckSs_ok (g : Gd T Γ c sc fn X) : ∀ (qs : List Sm) (ss : List Stmt), ckSs T sc fn qs ss = true → PSs X ss (tDS c (wpSs Γ qs))
  | [], ss, h => by
    cases ss with
    | nil => simp only [wpSs]; exact s_nil
    | cons _ _ => simp only [ckSs] at h; cases h
  | q :: qs, ss, h => by
    cases ss with
    | nil => simp only [ckSs] at h; cases h
    | cons s ss =>
      simp only [ckSs, Bool.and_eq_true] at h
      simp only [wpSs]
      exact s_cons (ckS_ok g q s h.1) (ckSs_ok g qs ss h.2)
end
end
end DL
/-! DL33: a text of defs: all promises at once, by how deep calls may go. -/
namespace DL
open PySem PySem.Spec PyProof.Rows L2
/-- a def in the small syntax: its parameters, all its names (the parameters first), its body -/
structure FDef where
  name : String
  pars : List Str
  N : List Str
  body : List Sm
/-- what the defs promise where calls may go k deep -/
def gam (P : List FDef) : Nat → Gam
  | 0 => fun _ _ _ _ => False
  | k + 1 => fun f => match P.find? (fun d => d.name == f) with
    | some d => wpF (gam P k) d.pars.length d.N.length d.body
    | none => fun _ _ _ => False
/-- what is known beside the defs -/
structure Kn where
  con : List (String × D)
  blt : List String
def tb (P : List FDef) (n : Kn) (d : FDef) : Tb := ⟨d.N, P.map fun d => (d.name, d.pars.length), P.map fun d => (d.name, d.pars), n.con, n.blt⟩
/-- the check of one def against its statement -/
def ckF (P : List FDef) (n : Kn) (d : FDef) (st : Stmt) : Bool := C8.scC d.N d.pars (C8.fnScope st) && ckSs (tb P n d) (C8.fnScope st).names (fun _ => true) d.body (C8.fnBody st)
/-- a def as it stands behind the top -/
structure Fact (K : PySem.W.Frag) (name : String) (st : Stmt) : Prop where
  ex : ∃ (f : Addr) (oc : Value) (od : Option Addr) (kV doc pm : Value) (an : Option Addr) (cdv ct : Value) (osl : Array (Option Value)), PySem.W.nsIn K mainGlobals (Str.ofString name) = some (some (.ref f)) ∧
    K.lookup f = some ⟨oc, od, .func (PySem.W.fnOf (Str.ofString name) (Str.ofString name) (C8.fnArgs st) (C8.fnBody st) (C8.fnScope st) .none kV doc pm an cdv ct), osl⟩ ∧ PySem.W.codeIn K cdv (Str.ofString name) = true ∧ PySem.W.keepIn K (.ref f) = true
theorem Fact.of {K : PySem.W.Frag} {name : String} {st : Stmt} {f : Addr} {oc : Value} {od an : Option Addr} {kV doc pm cdv ct : Value} {osl : Array (Option Value)} (a : PySem.W.nsIn K mainGlobals (Str.ofString name) = some (some (.ref f)))
    (l : K.lookup f = some ⟨oc, od, .func (PySem.W.fnOf (Str.ofString name) (Str.ofString name) (C8.fnArgs st) (C8.fnBody st) (C8.fnScope st) .none kV doc pm an cdv ct), osl⟩) (c : PySem.W.codeIn K cdv (Str.ofString name) = true) (k : PySem.W.keepIn K (.ref f) = true) : Fact K name st :=
  ⟨f, oc, od, kV, doc, pm, an, cdv, ct, osl, a, l, c, k⟩
/-- how its parameters are bound -/
structure Bnd (name : String) (ps : List Str) (st : Stmt) : Prop where
  pos : ∀ (kV doc pm : Value) (an : Option Addr) (cdv ct : Value) (us : List Value), us.length = ps.length → bindArgs (PySem.W.fnOf (Str.ofString name) (Str.ofString name) (C8.fnArgs st) (C8.fnBody st) (C8.fnScope st) .none kV doc pm an cdv ct) ⟨us, []⟩ = pure (ps.zip us)
  key : ∀ (kV doc pm : Value) (an : Option Addr) (cdv ct : Value) (us : List Value), us.length = ps.length → bindArgs (PySem.W.fnOf (Str.ofString name) (Str.ofString name) (C8.fnArgs st) (C8.fnBody st) (C8.fnScope st) .none kV doc pm an cdv ct) ⟨[], ps.zip us⟩ = pure (ps.zip us)
/-- the text as it stands behind the top -/
structure Txt (P : List FDef) (n : Kn) (K : PySem.W.Frag) (mg : Str → Option Value) : Prop where
  nd : (P.map (·.name)).Nodup
  fn : ∀ d ∈ P, ∃ st, Fact K d.name st ∧ Bnd d.name d.pars st ∧ ckF P n d st = true
  con : ∀ x d, n.con.lookup x = some d → ∃ u v, mg (Str.ofString x) = some u ∧ RelV v u ∧ ∀ H bad, DV K H bad v d
  blt : ∀ x, n.blt.contains x = true → mg (Str.ofString x) = none
  gcd : n.blt.contains "math.gcd" = true → mg (Str.ofString "gcd") = some (.builtin "math.gcd")
def ConOk (K : PySem.W.Frag) (mg : Str → Option Value) (l : List (String × D)) : Prop := ∀ x d, l.lookup x = some d → ∃ u v, mg (Str.ofString x) = some u ∧ RelV v u ∧ ∀ H bad, DV K H bad v d
theorem ConOk.nil {K : PySem.W.Frag} {mg : Str → Option Value} : ConOk K mg [] := fun _ _ h => by cases h
theorem ConOk.cons {K : PySem.W.Frag} {mg : Str → Option Value} {l : List (String × D)} {x : String} {d : D} {u : Value} (hu : mg (Str.ofString x) = some u) (h0 : ∃ v, RelV v u ∧ ∀ H bad, DV K H bad v d) (h : ConOk K mg l) : ConOk K mg ((x, d) :: l) := fun y e he => by
  rw [List.lookup_cons] at he
  cases q : y == x with
  | true =>
    rw [q] at he
    cases he
    obtain rfl := beq_iff_eq.mp q
    obtain ⟨v, h1, h2⟩ := h0
    exact ⟨u, v, hu, h1, h2⟩
  | false =>
    rw [q] at he
    exact h y e he
theorem con_int {K : PySem.W.Frag} {i : Int} {t : Tok} : ∃ v, RelV v (.int i t) ∧ ∀ H bad, DV K H bad v (.int i) := ⟨.int i, ⟨t, rfl⟩, fun _ _ => .int i⟩
theorem con_tup2 {K : PySem.W.Frag} {a : Addr} {i j : Int} {t u : Tok} {dd : Option Addr} {n : Nat} {sl : Array (Option Value)} (l : K.lookup a = some ⟨.type "tuple", dd, .seq #[.int i t, .int j u] n, sl⟩) : ∃ v, RelV v (.ref a) ∧ ∀ H bad, DV K H bad v (.tuple [.int i, .int j]) :=
  ⟨.ref a, rfl, fun _ _ => .tup (xs := [.int i, .int j]) (.inr ⟨_, _, n, l, rfl, rfl, (by show 2 ≤ sizeLine; decide), .cons ⟨t, rfl⟩ (.cons ⟨u, rfl⟩ .nil)⟩) (.cons (.int i) (.cons (.int j) .nil))⟩
def BltOk (mg : Str → Option Value) (l : List String) : Prop := ∀ x, l.contains x = true → mg (Str.ofString x) = none
theorem BltOk.nil {mg : Str → Option Value} : BltOk mg [] := fun _ h => by simp at h
theorem BltOk.cons {mg : Str → Option Value} {l : List String} {x : String} (h0 : mg (Str.ofString x) = none) (h : BltOk mg l) : BltOk mg (x :: l) := fun y hy => by
  rw [List.contains_cons, Bool.or_eq_true] at hy
  rcases hy with hy | hy
  · obtain rfl := beq_iff_eq.mp hy; exact h0
  · exact h y hy
theorem find_name : ∀ {P : List FDef}, (P.map (·.name)).Nodup → ∀ {d : FDef}, d ∈ P → P.find? (fun e => e.name == d.name) = some d
  | [], _, _, h => by cases h
  | e :: P, nd, d, h => by
    simp only [List.map_cons, List.nodup_cons] at nd
    rw [List.find?_cons]
    rcases List.mem_cons.mp h with rfl | h
    · simp
    · have : (e.name == d.name) = false := beq_eq_false_iff_ne.mpr fun q => nd.1 (by rw [q]; exact List.mem_map_of_mem h)
      rw [this]
      exact find_name nd.2 h
theorem lookup_fns : ∀ {P : List FDef} {f : String} {n : Nat}, (P.map fun d => (d.name, d.pars.length)).lookup f = some n → ∃ d ∈ P, d.name = f ∧ d.pars.length = n ∧ (P.map fun d => (d.name, d.pars)).lookup f = some d.pars
  | [], _, _, h => by cases h
  | e :: P, f, n, h => by
    simp only [List.map_cons, List.lookup_cons] at h ⊢
    cases q : f == e.name with
    | true =>
      rw [q] at h
      cases h
      exact ⟨e, List.mem_cons_self, (beq_iff_eq.mp q).symm, rfl, rfl⟩
    | false =>
      rw [q] at h
      obtain ⟨d, h1, h2, h3, h4⟩ := lookup_fns h
      exact ⟨d, List.mem_cons_of_mem _ h1, h2, h3, h4⟩
section
variable {P : List FDef} {n : Kn} {Pg : Program} {w : World} {K : PySem.W.Frag} {mg : Str → Option Value} {base h : Heap} {xt : Str → Option (Addr × Str)}
/-- all defs keep their promises -/
theorem txt_ok (X : K.In h) (G : h.Ns mainGlobals mg) (t : Txt P n K mg) : ∀ k, ∀ d ∈ P, ∃ (st : Stmt) (f : Addr) (oc : Value) (od : Option Addr) (kV doc pm : Value) (an : Option Addr) (cdv ct : Value) (osl : Array (Option Value)), PySem.W.nsIn K mainGlobals (Str.ofString d.name) = some (some (.ref f)) ∧
    K.lookup f = some ⟨oc, od, .func (PySem.W.fnOf (Str.ofString d.name) (Str.ofString d.name) (C8.fnArgs st) (C8.fnBody st) (C8.fnScope st) .none kV doc pm an cdv ct), osl⟩ ∧ PySem.W.keepIn K (.ref f) = true ∧ Bnd d.name d.pars st ∧
    FnG Pg w K mg base C8.CX0 k f (PySem.W.fnOf (Str.ofString d.name) (Str.ofString d.name) (C8.fnArgs st) (C8.fnBody st) (C8.fnScope st) .none kV doc pm an cdv ct) d.pars (hs K xt d.pars.length (gam P k d.name)) := by
  intro k
  induction k with
  | zero =>
    intro d hd
    obtain ⟨st, ⟨f, oc, od, kV, doc, pm, an, cdv, ct, osl, a, l, c, kp⟩, b, _⟩ := t.fn d hd
    have no : ∀ vs H Q E, ¬ hs K xt d.pars.length (gam P 0 d.name) vs H Q E := fun vs H Q E ⟨_, _, _, _, _, _, z, _⟩ => z.elim
    exact ⟨st, f, oc, od, kV, doc, pm, an, cdv, ct, osl, a, l, kp, b, ⟨fun vs H Q E z => (no _ _ _ _ z).elim, fun _ _ _ _ _ _ _ _ _ _ _ _ _ _ z => (no _ _ _ _ z).elim⟩⟩
  | succ k ih =>
    intro d hd
    obtain ⟨st, ⟨f, oc, od, kV, doc, pm, an, cdv, ct, osl, a, l, c, kp⟩, b, ck⟩ := t.fn d hd
    refine ⟨st, f, oc, od, kV, doc, pm, an, cdv, ct, osl, a, l, kp, b, ?_⟩
    simp only [ckF, Bool.and_eq_true] at ck
    have S := C8.fnScope_by ck.1
    have F : C8.Fun K (Str.ofString d.name) (Str.ofString d.name) st f _ := ⟨oc, od, .none, kV, doc, pm, an, cdv, ct, osl, rfl, l, c⟩
    have e : gam P (k + 1) d.name = wpF (gam P k) d.pars.length d.N.length d.body := by
      simp only [gam, find_name t.nd hd]
    rw [e]
    refine fn_rule F S rfl fun cdv' A outer s H vs E hg hr => ?_
    have g : Gd (tb P n d) (gam P k) ⟨K, xt, IOof vs, E⟩ (C8.fnScope st).names (fun _ => true) (cxOf C8.CX0 Pg w K mg base d.N (Str.ofString d.name) (C8.fnScope st) f cdv' A outer s H E).nox := by
      refine ⟨rfl, S.kind, rfl, S.nd, rfl, rfl, fun _ _ => rfl, hg, by have := hr.un; show (A.deeper _).units + 100 < _; omega, PassesOwn.never, fun f' m hm => ?_, t.con, t.blt, t.gcd⟩
      obtain ⟨d', h1, rfl, rfl, h4⟩ := lookup_fns hm
      obtain ⟨st', f', oc', od', kV', doc', pm', an', cdv'', ct', osl', a', l', kp', b', F'⟩ := ih d' h1
      refine ⟨C8.CX0, k, f', _, d'.pars, F', hr, PySem.W.mg_of X G a', kp', .all (b'.pos kV' doc' pm' an' cdv'' ct'), rfl, C8.pass0, fun qs hq => ?_, fun _ _ _ _ _ z => z⟩
      have hq : (P.map fun d => (d.name, d.pars)).lookup d'.name = some qs := hq
      rw [h4] at hq
      cases hq
      exact ⟨rfl, fun s us _ hl => .of_eq (b'.key kV' doc' pm' an' cdv'' ct' us hl)⟩
    exact (ckSs_ok g d.body _ ck.2).nox
/-- the law of a text -/
theorem txt_law {nm : String} {k : Nat} {fa : Addr} {x : Str} (X : K.In h) (G : h.Ns mainGlobals mg) (t : Txt P n K mg) {d : FDef} (hd : d ∈ P) (hn : d.name = nm) (hp : d.pars = [x]) (hfa : mg (Str.ofString nm) = some (.ref fa)) :
    ∃ fd : FuncData, (∀ (s : Shared) (u : Value), BindsTo s fd ⟨[u], []⟩ [(x, u)]) ∧
      ∀ base : Heap, K.In base → base.Ns mainGlobals mg → FnG Pg w K mg base C8.CX0 k fa fd [x] (hs K xt 1 (gam P k nm)) := by
  subst hn
  obtain ⟨st, ⟨f, oc, od, kV, doc, pm, an, cdv, ct, osl, a, l, c, kp⟩, b, ck⟩ := t.fn d hd
  have e := hfa.symm.trans (PySem.W.mg_of X G a)
  cases e
  refine ⟨PySem.W.fnOf (Str.ofString d.name) (Str.ofString d.name) (C8.fnArgs st) (C8.fnBody st) (C8.fnScope st) .none kV doc pm an cdv ct, fun s u => .of_eq ?_, fun base _ _ => ?_⟩
  · have := b.pos kV doc pm an cdv ct [u] (by rw [hp]; rfl)
    rw [hp] at this
    exact this
  · obtain ⟨st', f', oc', od', kV', doc', pm', an', cdv', ct', osl', a', l', kp', b', F'⟩ := txt_ok (Pg := Pg) (w := w) (base := base) (xt := xt) X G t k d hd
    have ef := a.symm.trans a'
    cases ef
    have el := l.symm.trans l'
    simp only [Option.some.injEq, Obj.mk.injEq, Data.func.injEq] at el
    rw [hp] at F'
    rw [el.2.2.1]
    exact F'
end
end DL
/-! DL34: stepping through what a def means. -/
namespace DL
open PySem PySem.Spec PyProof.Rows L2
theorem gam_at {P : List FDef} (nd : (P.map (·.name)).Nodup) {d : FDef} (h : d ∈ P) (k : Nat) : gam P (k + 1) d.name = wpF (gam P k) d.pars.length d.N.length d.body := by
  simp only [gam, find_name nd h]
theorem intBits_le {i : Int} {m : Nat} (h : i.natAbs < 2 ^ m) : Builtin.Int.intBits i ≤ m := by
  unfold Builtin.Int.intBits
  split
  · exact Nat.zero_le _
  · rename_i q
    have h0 : i.natAbs ≠ 0 := by
      intro z
      apply q
      rw [beq_iff_eq]
      omega
    have := (Nat.log2_lt h0).mpr h
    omega
theorem mulOk {i j : Int} (m n : Nat) (hi : i.natAbs < 2 ^ m) (hj : j.natAbs < 2 ^ n) (h : m + n ≤ 134217728) : MulOk i j := by
  unfold MulOk
  have := intBits_le hi
  have := intBits_le hj
  omega
theorem divOk {j : Int} (h : 0 < j) (h2 : j < 1000000000000) : DivOk j := by
  refine ⟨h, ?_⟩
  have h0 : j.natAbs ≠ 0 := by omega
  have : j.natAbs.log2 < 40 := (Nat.log2_lt h0).mpr (by omega)
  omega
namespace R
variable {Γ : Gam} {E : Xn → Prop} {ρ : Rho} {Q : Rs → Rho → Prop} {T : Bool → Rho → Prop} {k : D → Rho → Prop}
theorem lit {d : D} (h : Q (.dat d) ρ) : (wp Γ (.lit d)).e E ρ Q := by simp only [wp, W4.of]; exact h
theorem con {x : String} {d : D} (h : Q (.dat d) ρ) : (wp Γ (.con x d)).e E ρ Q := by simp only [wp, W4.of]; exact h
theorem var {i : Nat} {d : D} (g : gt ρ i = some (.dat d)) (h : Q (.dat d) ρ) : (wp Γ (.var i)).e E ρ Q := by simp only [wp, W4.of, g]; exact h
theorem varO {i : Nat} {b : Bool} {xs : List D} (g : gt ρ i = some (.own b xs)) (h : Q (.ref i) ρ) : (wp Γ (.var i)).e E ρ Q := by simp only [wp, W4.of, g]; exact h
theorem op2 {o : O2} {a b : Ex} (h : (wp Γ a).e E ρ fun r ρ1 => (wp Γ b).e E ρ1 fun s ρ2 => with2 ρ2 r s fun x y => op2D o x y fun z => Q z ρ2) : (wp Γ (.op2 o a b)).e E ρ Q := by simp only [wp, W4.of]; exact h
theorem repL {es : List Ex} {n : Ex} (h : eL (wps Γ es) E ρ fun rs ρ1 => escs rs ρ1 fun ds ρ2 => (wp Γ n).e E ρ2 fun r ρ3 => match r with
    | .dat (.int j) => (-(2 ^ 63) ≤ j ∧ j < 2 ^ 63 ∧ LenOk (ds.length * j.toNat)) ∧ Q (.own (List.replicate j.toNat ds).flatten) ρ3
    | _ => False) : (wp Γ (.repL es n)).e E ρ Q := by simp only [wp, W4.of]; exact h
theorem cmp {o : C2} {a b : Ex} (h : (wp Γ a).e E ρ fun r ρ1 => (wp Γ b).e E ρ1 fun s ρ2 => with2 ρ2 r s fun x y => cmpD o x y fun z => Q (.dat (.bool z)) ρ2) : (wp Γ (.cmp o a b)).e E ρ Q := by simp only [wp, W4.of]; exact h
theorem isN {a : Ex} (h : (wp Γ a).e E ρ fun r ρ1 => with1 ρ1 r fun x => Q (.dat (.bool (isNone x))) ρ1) : (wp Γ (.isN a)).e E ρ Q := by simp only [wp, W4.of]; exact h
theorem notN {a : Ex} (h : (wp Γ a).e E ρ fun r ρ1 => with1 ρ1 r fun x => Q (.dat (.bool (!isNone x))) ρ1) : (wp Γ (.notN a)).e E ρ Q := by simp only [wp, W4.of]; exact h
theorem chain {o o' : C2} {a b c : Ex} (h : (wp Γ a).e E ρ fun r ρ1 => (wp Γ b).e E ρ1 fun s ρ2 => with2 ρ2 r s fun x y => cmpD o x y fun z =>
      if z = true then (wp Γ c).e E ρ2 fun t ρ3 => with2 ρ3 s t fun y' u => cmpD o' y' u fun q => Q (.dat (.bool q)) ρ3
      else Q (.dat (.bool false)) ρ2) : (wp Γ (.chain o o' a b c)).e E ρ Q := by simp only [wp, W4.of]; exact h
theorem neg {a : Ex} (h : (wp Γ a).e E ρ fun r ρ1 => match r with
    | .dat (.int i) => Q (.dat (.int (-i))) ρ1
    | _ => False) : (wp Γ (.neg a)).e E ρ Q := by simp only [wp, W4.of]; exact h
theorem not {a : Ex} (h : (wp Γ a).e E ρ fun r ρ1 => match r with
      | .dat (.bool b) => Q (.dat (.bool (!b))) ρ1
      | _ => False) : (wp Γ (.not a)).e E ρ Q := by simp only [wp]; exact h
theorem tnot {a : Ex} (h : (wp Γ a).t E ρ fun b ρ1 => T (!b) ρ1) : (wp Γ (.not a)).t E ρ T := by simp only [wp]; exact h
theorem and {a b : Ex} (h : (wp Γ a).e E ρ fun r ρ1 => match r with
      | .dat (.bool c) => if c = true then (wp Γ b).e E ρ1 Q else Q (.dat (.bool false)) ρ1
      | _ => False) : (wp Γ (.and a b)).e E ρ Q := by simp only [wp]; exact h
theorem tand {a b : Ex} (h : (wp Γ a).t E ρ fun c ρ1 => if c = true then (wp Γ b).t E ρ1 T else T false ρ1) : (wp Γ (.and a b)).t E ρ T := by simp only [wp]; exact h
theorem or {a b : Ex} (h : (wp Γ a).e E ρ fun r ρ1 => match r with
      | .dat (.bool c) => if c = true then Q (.dat (.bool true)) ρ1 else (wp Γ b).e E ρ1 Q
      | _ => False) : (wp Γ (.or a b)).e E ρ Q := by simp only [wp]; exact h
theorem tor {a b : Ex} (h : (wp Γ a).t E ρ fun c ρ1 => if c = true then T true ρ1 else (wp Γ b).t E ρ1 T) : (wp Γ (.or a b)).t E ρ T := by simp only [wp]; exact h
theorem tcmp {o : C2} {a b : Ex} (h : (wp Γ (.cmp o a b)).e E ρ fun r ρ1 => match r with
    | .dat (.bool b) => T b ρ1
    | _ => False) : (wp Γ (.cmp o a b)).t E ρ T := by simp only [wp] at h ⊢; exact h
theorem tisN {a : Ex} (h : (wp Γ (.isN a)).e E ρ fun r ρ1 => match r with
    | .dat (.bool b) => T b ρ1
    | _ => False) : (wp Γ (.isN a)).t E ρ T := by simp only [wp] at h ⊢; exact h
theorem tnotN {a : Ex} (h : (wp Γ (.notN a)).e E ρ fun r ρ1 => match r with
    | .dat (.bool b) => T b ρ1
    | _ => False) : (wp Γ (.notN a)).t E ρ T := by simp only [wp] at h ⊢; exact h
theorem tchain {o o' : C2} {a b c : Ex} (h : (wp Γ (.chain o o' a b c)).e E ρ fun r ρ1 => match r with
    | .dat (.bool b) => T b ρ1
    | _ => False) : (wp Γ (.chain o o' a b c)).t E ρ T := by simp only [wp] at h ⊢; exact h
theorem tcall {f : String} {es : List Ex} (h : (wp Γ (.call f es)).e E ρ fun r ρ1 => match r with
    | .dat (.bool b) => T b ρ1
    | _ => False) : (wp Γ (.call f es)).t E ρ T := by simp only [wp] at h ⊢; exact h
theorem tcallK {f : String} {ks : List String} {es : List Ex} (h : (wp Γ (.callK f ks es)).e E ρ fun r ρ1 => match r with
    | .dat (.bool b) => T b ρ1
    | _ => False) : (wp Γ (.callK f ks es)).t E ρ T := by simp only [wp] at h ⊢; exact h
theorem tbi {b : Bi} {es : List Ex} (h : (wp Γ (.bi b es)).e E ρ fun r ρ1 => match r with
    | .dat (.bool b) => T b ρ1
    | _ => False) : (wp Γ (.bi b es)).t E ρ T := by simp only [wp] at h ⊢; exact h
theorem tvar {i : Nat} (h : (wp Γ (.var i)).e E ρ fun r ρ1 => match r with
    | .dat (.bool b) => T b ρ1
    | _ => False) : (wp Γ (.var i)).t E ρ T := by simp only [wp] at h ⊢; exact h
theorem ife {c a b : Ex} (h : (wp Γ c).t E ρ fun q ρ1 => if q = true then (wp Γ a).e E ρ1 Q else (wp Γ b).e E ρ1 Q) : (wp Γ (.ife c a b)).e E ρ Q := by simp only [wp, W4.of]; exact h
theorem tup {es : List Ex} (h : eL (wps Γ es) E ρ fun rs ρ1 => escs rs ρ1 fun ds ρ2 => Q (.dat (.tuple ds)) ρ2) : (wp Γ (.tup es)).e E ρ Q := by simp only [wp, W4.of]; exact h
theorem lst {es : List Ex} (h : eL (wps Γ es) E ρ fun rs ρ1 => escs rs ρ1 fun ds ρ2 => Q (.own ds) ρ2) : (wp Γ (.lst es)).e E ρ Q := by simp only [wp, W4.of]; exact h
theorem idx {a b : Ex} (h : (wp Γ a).e E ρ fun r ρ1 => (wp Γ b).e E ρ1 fun s ρ2 => with2 ρ2 r s fun x y => idxD x y fun z => Q (.dat z) ρ2) : (wp Γ (.idx a b)).e E ρ Q := by simp only [wp, W4.of]; exact h
theorem slc {a : Ex} {lo hi : Option Ex} (h : (wp Γ a).e E ρ fun r ρ1 => optI (wpo Γ lo) E ρ1 fun i ρ2 => optI (wpo Γ hi) E ρ2 fun j ρ3 => with1 ρ3 r fun x => slcD x i j fun z => Q z ρ3) : (wp Γ (.slc a lo hi)).e E ρ Q := by simp only [wp, W4.of]; exact h
theorem oN {q : Option Int → Rho → Prop} (h : q none ρ) : optI (wpo Γ none) E ρ q := by simp only [wpo, optI]; exact h
theorem oS {e : Ex} {q : Option Int → Rho → Prop} (h : (wp Γ e).e E ρ fun r ρ1 => match r with
    | .dat (.int i) => q (some i) ρ1
    | _ => False) : optI (wpo Γ (some e)) E ρ q := by simp only [wpo, optI]; exact h
theorem call {f : String} {es : List Ex} (h : eL (wps Γ es) E ρ fun rs ρ1 => escs rs ρ1 fun ds ρ2 => Γ f (ds.map .dat) (fun r _ => Q r ρ2) E) : (wp Γ (.call f es)).e E ρ Q := by simp only [wp, W4.of, callW]; exact h
theorem callK {f : String} {ks : List String} {es : List Ex} (h : eL (wps Γ es) E ρ fun rs ρ1 => escs rs ρ1 fun ds ρ2 => Γ f (ds.map .dat) (fun r _ => Q r ρ2) E) : (wp Γ (.callK f ks es)).e E ρ Q := by simp only [wp, W4.of, callW]; exact h
def ioAt (sp : DSp) (E : Xn → Prop) (Q : Rs → Rho → Prop) : Rs → List D → Rho → Prop := fun r0 ds ρ2 => match r0 with
    | .ref i => match gt ρ2 i with
      | some (.own b xs) => sp (.own true xs :: ds.map .dat) (fun r outs => match outs with
          | [ys] => Q r (ρ2.set i (some (.own b ys)))
          | _ => False) E
      | _ => False
    | .own xs => sp (.own true xs :: ds.map .dat) (fun r outs => match outs with
          | [_] => Q r ρ2
          | _ => False) E
    | .dat _ => False
theorem callIo {f : String} {a : Ex} {es : List Ex} (h : (wp Γ a).e E ρ fun r0 ρ0 => eL (wps Γ es) E ρ0 fun rs ρ1 => escs rs ρ1 fun ds ρ2 => ioAt (Γ f) E Q r0 ds ρ2) : (wp Γ (.callIo f a es)).e E ρ Q := by simp only [wp, W4.of, callIoW, eL]; exact h
def one1 (q : List D → Prop) : List (List D) → Prop
  | [ys] => q ys
  | _ => False
theorem io_ref {sp : DSp} {i : Nat} {b : Bool} {xs ds : List D} (g : gt ρ i = some (.own b xs)) (h : sp (.own true xs :: ds.map .dat) (fun r outs => one1 (fun ys => Q r (ρ.set i (some (.own b ys)))) outs) E) : ioAt sp E Q (.ref i) ds ρ := by simp only [ioAt, g]; exact h
theorem io_own {sp : DSp} {xs ds : List D} (h : sp (.own true xs :: ds.map .dat) (fun r outs => one1 (fun _ => Q r ρ) outs) E) : ioAt sp E Q (.own xs) ds ρ := by simp only [ioAt]; exact h
theorem one_1 {q : List D → Prop} {ys : List D} (h : q ys) : one1 q [ys] := h
theorem bi {b : Bi} {es : List Ex} (h : eL (wps Γ es) E ρ fun rs ρ1 => withs ρ1 rs fun ds => biD b ds fun z => Q z ρ1) : (wp Γ (.bi b es)).e E ρ Q := by simp only [wp, W4.of]; exact h
theorem listR {es : List Ex} (h : eL (wps Γ es) E ρ fun rs ρ1 => withs ρ1 rs fun ds => rngD ds fun xs => xs.length ≤ 16777216 ∧ Q (.own xs) ρ1) : (wp Γ (.listR es)).e E ρ Q := by simp only [wp, W4.of]; exact h
theorem comp {elt it : Ex} {tg : Tn} {ifs : Option Ex} {own : List Nat} (h : (wp Γ it).i E ρ fun xs ck ρ1 => noOwn ρ1 own ∧
      compL (asnN tg) (match wpo Γ ifs with
        | none => fun _ ρ Q => Q true ρ
        | some w => w.t) (wp Γ elt).e ck own (fun acc ρ2 => Q (.own acc) (restR ρ1 ρ2 own)) xs [] (wipeR ρ1 own)) : (wp Γ (.comp elt tg it ifs own)).e E ρ Q := by simp only [wp, W4.of]; exact h
theorem index {a b : Ex} (h : (wp Γ a).e E ρ fun r ρ1 => with1 ρ1 r (fun x0 => isListD x0 = true) ∧ (wp Γ b).e E ρ1 fun s ρ2 => with2 ρ2 r s fun x y => match x with
    | .list xs => shp y ∧ shp (.list xs) ∧ match xs.findIdx? (fun z => PyData.eqv z y) with
      | some n => Q (.dat (.int n)) ρ2
      | none => False
    | _ => False) : (wp Γ (.index a b)).e E ρ Q := by simp only [wp, W4.of]; exact h
/-! lists of expressions -/
theorem an {q : List Rs → Rho → Prop} (h : q [] ρ) : eL (wps Γ []) E ρ q := by simp only [wps, eL]; exact h
theorem ac {e : Ex} {es : List Ex} {q : List Rs → Rho → Prop} (h : (wp Γ e).e E ρ fun r ρ1 => eL (wps Γ es) E ρ1 fun rs ρ2 => q (r :: rs) ρ2) : eL (wps Γ (e :: es)) E ρ q := by simp only [wps, eL]; exact h
theorem en {q : List D → Rho → Prop} (h : q [] ρ) : escs [] ρ q := h
theorem ec {r : Rs} {rs : List Rs} {q : List D → Rho → Prop} (h : esc r ρ fun d ρ1 => escs rs ρ1 fun ds ρ2 => q (d :: ds) ρ2) : escs (r :: rs) ρ q := h
theorem ed {d : D} (h : k d ρ) : esc (.dat d) ρ k := h
theorem eo {xs : List D} (h : k (.list xs) ρ) : esc (.own xs) ρ k := h
theorem erd {i : Nat} {d : D} (g : gt ρ i = some (.dat d)) (h : k d ρ) : esc (.ref i) ρ k := by simp only [esc, g]; exact h
theorem ero {i : Nat} {xs : List D} (g : gt ρ i = some (.own false xs)) (h : k (.list xs) (ρ.set i (some (.dat (.list xs))))) : esc (.ref i) ρ k := by simp only [esc, g]; exact h
theorem w1 {r : Rs} {x : D} {q : D → Prop} (g : deref ρ r = some x) (h : q x) : with1 ρ r q := by simp only [with1, g]; exact h
theorem w2 {r s : Rs} {x y : D} {q : D → D → Prop} (g : deref ρ r = some x) (g' : deref ρ s = some y) (h : q x y) : with2 ρ r s q := by simp only [with2, g, g']; exact h
theorem ws {rs : List Rs} {ds : List D} {q : List D → Prop} (g : derefs ρ rs = some ds) (h : q ds) : withs ρ rs q := by simp only [withs, g]; exact h
/-! what is walked -/
theorem irange {es : List Ex} {q : List D → (Rho → Prop) → Rho → Prop} (h : eL (wps Γ es) E ρ fun rs ρ1 => withs ρ1 rs fun ds => rngD ds fun xs => q xs (fun _ => True) ρ1) : (wp Γ (.range es)).i E ρ q := by simp only [wp]; exact h
theorem frange {es : List Ex} {q : List D → (Rho → Prop) → Rho → Prop} (h : eL (wps Γ es) E ρ fun rs ρ1 => withs ρ1 rs fun ds => rngD ds fun xs => q xs (fun _ => True) ρ1) : (wp Γ (.range es)).f E ρ q := by simp only [wp]; exact h
theorem rng1 {n : Int} {q : List D → Prop} (h : -(2 ^ 62) ≤ n ∧ n < 2 ^ 62) (l : LenOk n.toNat) (g : q ((List.range n.toNat).map fun (i : Nat) => PyData.int i)) : rngD [.int n] q := ⟨h, l, g⟩
theorem rng2 {a b : Int} {q : List D → Prop} (h : -(2 ^ 62) ≤ a ∧ a < 2 ^ 62 ∧ -(2 ^ 62) ≤ b ∧ b < 2 ^ 62) (l : LenOk (b - a).toNat) (g : q ((List.range (b - a).toNat).map fun (i : Nat) => PyData.int (a + i))) : rngD [.int a, .int b] q := ⟨h, l, g⟩
/-! statements -/
variable {d : DEn}
theorem sn (h : d.nx ρ) : wpSs Γ [] E d ρ := by simp only [wpSs]; exact h
theorem sc {s : Sm} {ss : List Sm} (h : wpS Γ s E { d with nx := fun ρ1 => wpSs Γ ss E d ρ1 } ρ) : wpSs Γ (s :: ss) E d ρ := by simp only [wpSs]; exact h
theorem sasg {t : Ta} {e : Ex} (h : (wp Γ e).e E ρ fun r ρ1 => asn Γ t r E ρ1 d.nx) : wpS Γ (.asg t e) E d ρ := by simp only [wpS]; exact h
theorem spar {ts : List Ta} {es : List Ex} (h : eL (wps Γ es) E ρ fun rs ρ1 => settle rs ρ1 fun rs' ρ2 => asns Γ ts rs' E ρ2 d.nx) : wpS Γ (.par ts es) E d ρ := by simp only [wpS]; exact h
theorem sexpr {e : Ex} (h : (wp Γ e).e E ρ fun _ ρ1 => d.nx ρ1) : wpS Γ (.expr e) E d ρ := by simp only [wpS]; exact h
def appAt (i : Nat) (nx : Rho → Prop) : D → Rho → Prop := fun x ρ2 => match gt ρ2 i with
    | some (.own b xs) => xs.length < sizeLine ∧ nx (ρ2.set i (some (.own b (xs ++ [x]))))
    | _ => False
theorem sapp {i : Nat} {e : Ex} (h : isOwn ρ i ∧ (wp Γ e).e E ρ fun r ρ1 => esc r ρ1 (appAt i d.nx)) : wpS Γ (.app i e) E d ρ := by simp only [wpS]; exact h
theorem app_at {i : Nat} {x : D} {b : Bool} {xs : List D} (g : gt ρ i = some (.own b xs)) (l : xs.length < sizeLine) (h : kk (ρ.set i (some (.own b (xs ++ [x]))))) : appAt i kk x ρ := by simp only [appAt, g]; exact ⟨l, h⟩
def extAt (i : Nat) (nx : Rho → Prop) : Rs → Rho → Prop := fun r ρ1 => match r with
    | .own ys => match gt ρ1 i with
      | some (.own b xs) => LenOk (xs.length + ys.length) ∧ nx (ρ1.set i (some (.own b (xs ++ ys))))
      | _ => False
    | _ => False
theorem sext {i : Nat} {e : Ex} (h : isOwn ρ i ∧ (wp Γ e).e E ρ (extAt i d.nx)) : wpS Γ (.ext i e) E d ρ := by simp only [wpS]; exact h
theorem sret {e : Ex} (h : (wp Γ e).e E ρ fun r ρ1 => d.rt r ρ1) : wpS Γ (.ret e) E d ρ := by simp only [wpS]; exact h
theorem site {c : Ex} {a b : List Sm} (h : (wp Γ c).t E ρ fun q ρ1 => if q = true then wpSs Γ a E d ρ1 else wpSs Γ b E d ρ1) : wpS Γ (.ite c a b) E d ρ := by simp only [wpS]; exact h
theorem sfor {t : Tn} {it : Ex} {b : List Sm} (h : (wp Γ it).f E ρ fun xs _ ρ1 => forL (asnN t) (wpSs Γ b E) d xs ρ1) : wpS Γ (.for_ t it b) E d ρ := by simp only [wpS]; exact h
/-! targets -/
variable {kk : Rho → Prop}
def notIo (ρ : Rho) (i : Nat) : Prop := ∀ xs, gt ρ i ≠ some (.own true xs)
theorem nd_ {i : Nat} {v : D} (n : notIo ρ i) (h : kk (ρ.set i (some (.dat v)))) : asn Γ (.name i) (.dat v) E ρ kk := by
  simp only [asn, putR]
  split
  · rename_i xs e; exact (n xs e).elim
  · exact h
theorem no_ {i : Nat} {v : List D} (n : notIo ρ i) (h : kk (ρ.set i (some (.own false v)))) : asn Γ (.name i) (.own v) E ρ kk := by
  simp only [asn, putR]
  split
  · rename_i xs e; exact (n xs e).elim
  · exact h
theorem nr_ {i j : Nat} (n : notIo ρ i) (h : esc (.ref j) ρ fun v ρ1 => kk (ρ1.set i (some (.dat v)))) : asn Γ (.name i) (.ref j) E ρ kk := by
  simp only [asn, putR]
  split
  · rename_i xs e; exact (n xs e).elim
  · exact h
theorem tt {ts : List Ta} {ds : List D} (l : ds.length = ts.length) (h : asns Γ ts (ds.map .dat) E ρ kk) : asn Γ (.tup ts) (.dat (.tuple ds)) E ρ kk := by simp only [asn]; exact ⟨l, h⟩
theorem tn (h : kk ρ) : asns Γ [] [] E ρ kk := by simp only [asns]; exact h
theorem tc {t : Ta} {ts : List Ta} {r : Rs} {rs : List Rs} (h : asn Γ t r E ρ fun ρ1 => asns Γ ts rs E ρ1 kk) : asns Γ (t :: ts) (r :: rs) E ρ kk := by simp only [asns]; exact h
def putAt (i : Nat) (v : D) (kk : Rho → Prop) : Rs → Rho → Prop := fun q ρ2 => match q with
    | .dat (.int j) => match gt ρ2 i with
      | some (.own b xs) => match ixN xs.length j with
        | some n => kk (ρ2.set i (some (.own b (xs.set n v))))
        | none => False
      | _ => False
    | _ => False
theorem subd {i : Nat} {ix : Ex} {r : Rs} (h : esc r ρ fun v ρ1 => isOwn ρ1 i ∧ (wp Γ ix).e E ρ1 (putAt i v kk)) : asn Γ (.sub i ix) r E ρ kk := by simp only [asn]; exact h
theorem own_and {i : Nat} {b : Bool} {xs : List D} {p : Prop} (g : gt ρ i = some (.own b xs)) (h : p) : isOwn ρ i ∧ p := ⟨by simp only [isOwn, g], h⟩
theorem put_at {i n : Nat} {j : Int} {v : D} {b : Bool} {xs : List D} (g : gt ρ i = some (.own b xs)) (e : ixN xs.length j = some n) (h : kk (ρ.set i (some (.own b (xs.set n v))))) : putAt i v kk (.dat (.int j)) ρ := by simp only [putAt, g, e]; exact h
theorem setn {q : List Rs → Rho → Prop} (h : q [] ρ) : settle [] ρ q := by simp only [DL.settle]; exact h
theorem setd {v : D} {rs : List Rs} {q : List Rs → Rho → Prop} (h : settle rs ρ fun rs' ρ2 => q (.dat v :: rs') ρ2) : settle (.dat v :: rs) ρ q := by simp only [DL.settle]; exact h
theorem seto {v : List D} {rs : List Rs} {q : List Rs → Rho → Prop} (h : settle rs ρ fun rs' ρ2 => q (.own v :: rs') ρ2) : settle (.own v :: rs) ρ q := by simp only [DL.settle]; exact h
theorem setr {i : Nat} {rs : List Rs} {q : List Rs → Rho → Prop} (h : esc (.ref i) ρ fun v ρ1 => settle rs ρ1 fun rs' ρ2 => q (.dat v :: rs') ρ2) : settle (.ref i :: rs) ρ q := by simp only [DL.settle]; exact h
theorem ifT {p q : Prop} (h : p) : if true = true then p else q := h
theorem ifF {p q : Prop} (h : q) : if false = true then p else q := h
/-- the slot may be given another thing -/
def okSl : Option Sl → Bool
  | some (.own true _) => false
  | _ => true
theorem nio {i : Nat} {s : Option Sl} (g : gt ρ i = s) (h : okSl s = true) : notIo ρ i := fun xs e => by
  rw [g] at e; subst e; cases h
end R
end DL
/-! DL35: rules of the operations; the tactic. -/
namespace DL
open PySem PySem.Spec PyProof.Rows L2
namespace R
/-- a def opened -/
theorem opn {P : List FDef} (nd : (P.map (·.name)).Nodup) {d : FDef} (h : d ∈ P) {k : Nat} {sl : List Sl} {Q : Rs → List (List D) → Prop} {E : Xn → Prop} (l : sl.length = d.pars.length)
    (g : wpSs (gam P k) d.body E ⟨fin sl Q (.dat .none), fin sl Q, fun _ => False, fun _ => False⟩ (sl.map some ++ List.replicate (d.N.length - d.pars.length) none)) : gam P (k + 1) d.name sl Q E := by
  rw [gam_at nd h]
  exact ⟨l, g⟩
variable {k : KR} {i j : Int} {xs ys : List D} {x y : D} {kb : Bool → Prop} {kd : D → Prop}
theorem add_i (h : k (.dat (.int (i + j)))) : op2D .add (.int i) (.int j) k := h
theorem sub_i (h : k (.dat (.int (i - j)))) : op2D .sub (.int i) (.int j) k := h
theorem mul_i (m : MulOk i j) (h : k (.dat (.int (i * j)))) : op2D .mul (.int i) (.int j) k := ⟨m, h⟩
theorem add_l (m : LenOk (xs.length + ys.length)) (h : k (.own (xs ++ ys))) : op2D .add (.list xs) (.list ys) k := ⟨m, h⟩
theorem add_t (m : LenOk (xs.length + ys.length)) (h : k (.dat (.tuple (xs ++ ys)))) : op2D .add (.tuple xs) (.tuple ys) k := ⟨m, h⟩
theorem fdiv_i (m : DivOk j) (h : k (.dat (.int (i / j)))) : op2D .fdiv (.int i) (.int j) k := ⟨m, h⟩
theorem mod_i (m : 0 < j) (h : k (.dat (.int (i % j)))) : op2D .mod (.int i) (.int j) k := ⟨m, h⟩
theorem pow_i (m : 0 ≤ j ∧ j ≤ 1000000 ∧ i.natAbs < 2 ^ 64) (h : k (.dat (.int (i ^ j.toNat)))) : op2D .pow (.int i) (.int j) k := ⟨m, h⟩
theorem lt_i (h : kb (decide (i < j))) : cmpD .lt (.int i) (.int j) kb := h
theorem le_i (h : kb (decide (i ≤ j))) : cmpD .le (.int i) (.int j) kb := h
theorem gt_i (h : kb (decide (j < i))) : cmpD .gt (.int i) (.int j) kb := h
theorem ge_i (h : kb (decide (j ≤ i))) : cmpD .ge (.int i) (.int j) kb := h
theorem idx_l (g : atI xs i = some x) (h : kd x) : idxD (.list xs) (.int i) kd := by simp only [idxD, g]; exact h
theorem idx_t (g : atI xs i = some x) (h : kd x) : idxD (.tuple xs) (.int i) kd := by simp only [idxD, g]; exact h
theorem slc_l {lo hi : Option Int} (h : k (.own (cutD xs lo hi))) : slcD (.list xs) lo hi k := h
theorem slc_t {lo hi : Option Int} (h : k (.dat (.tuple (cutD xs lo hi)))) : slcD (.tuple xs) lo hi k := h
theorem len_l (h : k (.dat (.int xs.length))) : biD .len [.list xs] k := h
theorem len_t (h : k (.dat (.int xs.length))) : biD .len [.tuple xs] k := h
theorem tuple_l (h : k (.dat (.tuple xs))) : biD .tuple [.list xs] k := h
theorem tuple_t (h : k (.dat (.tuple xs))) : biD .tuple [.tuple xs] k := h
theorem list_l (h : k (.own xs)) : biD .list [.list xs] k := h
theorem list_t (h : k (.own xs)) : biD .list [.tuple xs] k := h
theorem abs_i (h : k (.dat (.int (if i < 0 then -i else i)))) : biD .abs [.int i] k := h
theorem int_i (h : k (.dat (.int i))) : biD .int [.int i] k := h
theorem divmod_i (m : 0 < j ∧ j < 1073741824) (h : k (.dat (.tuple [.int (i / j), .int (i % j)]))) : biD .divmod [.int i, .int j] k := ⟨m, h⟩
theorem gcd_i (h : k (.dat (.int ((Nat.gcd i.natAbs j.natAbs : Nat) : Int)))) : biD .gcd [.int i, .int j] k := h
theorem isint (h : k (.dat (.bool (isIntD x)))) : biD .isInt [x] k := h
theorem isbool (h : k (.dat (.bool (isBoolD x)))) : biD .isBool [x] k := h
theorem istuple (h : k (.dat (.bool (isTupleD x)))) : biD .isTuple [x] k := h
theorem islist (h : k (.dat (.bool (isListD x)))) : biD .isList [x] k := h
theorem repr_d (m : ReprOk x) (h : k (.dat (.str x.shown))) : biD .repr [x] k := ⟨m, h⟩
theorem intsD_map : ∀ ns : List Int, intsD (ns.map .int) = some ns
  | [] => rfl
  | n :: ns => by simp [intsD, intsD_map ns]
theorem boolsD_map : ∀ bs : List Bool, boolsD (bs.map .bool) = some bs
  | [] => rfl
  | n :: ns => by simp [boolsD, boolsD_map ns]
theorem sum_is {ns : List Int} (h : k (.dat (.int ns.sum))) : biD .sum [.list (ns.map .int)] k := by simp only [biD, bInts, intsD_map]; exact h
theorem all_bs {bs : List Bool} (h : k (.dat (.bool (bs.all id)))) : biD .all [.list (bs.map .bool)] k := by simp only [biD, bBools, boolsD_map]; exact h
theorem any_bs {bs : List Bool} (h : k (.dat (.bool (bs.any id)))) : biD .any [.list (bs.map .bool)] k := by simp only [biD, bBools, boolsD_map]; exact h
theorem find {sl : List Sl} {q : Rs → List (List D) → Prop} {ρ : Rho} {o : List (List D)} (e : outs sl ρ = some o) (h : q (.dat x) o) : fin sl q (.dat x) ρ := by simp only [fin, e]; exact h
theorem fino {sl : List Sl} {q : Rs → List (List D) → Prop} {ρ : Rho} {o : List (List D)} (e : outs sl ρ = some o) (h : q (.own xs) o) : fin sl q (.own xs) ρ := by simp only [fin, e]; exact h
theorem finr {sl : List Sl} {q : Rs → List (List D) → Prop} {ρ : Rho} {o : List (List D)} {m : Nat} (e : outs sl ρ = some o) (g : gt ρ m = some (.own false xs)) (h : q (.own xs) o) : fin sl q (.ref m) ρ := by simp only [fin, e, g]; exact h
theorem find' {sl : List Sl} {q : Rs → List (List D) → Prop} {ρ : Rho} {o : List (List D)} {m : Nat} (e : outs sl ρ = some o) (g : gt ρ m = some (.dat x)) (h : q (.dat x) o) : fin sl q (.ref m) ρ := by simp only [fin, e, g]; exact h
theorem iteD {c : Prop} [Decidable c] {p q : Prop} (h1 : c → p) (h2 : ¬ c → q) : if decide c = true then p else q := by
  split
  · exact h1 (of_decide_eq_true ‹_›)
  · exact h2 (fun z => ‹¬ _› (decide_eq_true z))
theorem join {Γ : Gam} {E : Xn → Prop} {ρ : Rho} {e : Ex} {α : Type} (f : α → Rs) {q : Rs → Rho → Prop} (h0 : ∀ v, q (f v) ρ) (h : ∀ q' : Rs → Rho → Prop, (∀ v, q' (f v) ρ) → (wp Γ e).e E ρ q') : (wp Γ e).e E ρ q := h q h0
def isVal : Ex → Bool
  | .not _ | .and _ _ | .or _ _ | .range _ | .enum _ | .zip _ _ | .rev _ => false
  | _ => true
theorem val_all {Γ : Gam} : ∀ {e : Ex}, isVal e = true → (wp Γ e).i = asI (wp Γ e).e ∧ (wp Γ e).f = asF (wp Γ e).e := by
  intro e h
  cases e <;> first | (simp only [wp]; exact ⟨rfl, rfl⟩) | cases h
def fSeq (k : List D → (Rho → Prop) → Rho → Prop) : D → Rho → Prop := fun d ρ2 => match seqD d with
    | some xs => k xs (fun _ => True) ρ2
    | none => False
theorem fval {Γ : Gam} {E : Xn → Prop} {ρ : Rho} {e : Ex} {k : List D → (Rho → Prop) → Rho → Prop} (v : isVal e = true) (h : (wp Γ e).e E ρ fun r ρ1 => esc r ρ1 (fSeq k)) : (wp Γ e).f E ρ k := by rw [(val_all v).2]; exact h
theorem f_l {ρ : Rho} {k : List D → (Rho → Prop) → Rho → Prop} (h : k xs (fun _ => True) ρ) : fSeq k (.list xs) ρ := h
theorem f_t {ρ : Rho} {k : List D → (Rho → Prop) → Rho → Prop} (h : k xs (fun _ => True) ρ) : fSeq k (.tuple xs) ρ := h
def iAt (k : List D → (Rho → Prop) → Rho → Prop) : Rs → Rho → Prop := fun r ρ1 => match deref ρ1 r with
  | some (.list xs) => k xs (chk r xs) ρ1
  | some (.tuple xs) => match r with
    | .dat _ => k xs (fun _ => True) ρ1
    | _ => False
  | _ => False
theorem ival {Γ : Gam} {E : Xn → Prop} {ρ : Rho} {e : Ex} {k : List D → (Rho → Prop) → Rho → Prop} (v : isVal e = true) (h : (wp Γ e).e E ρ (iAt k)) : (wp Γ e).i E ρ k := by rw [(val_all v).1]; exact h
theorem i_l {ρ : Rho} {k : List D → (Rho → Prop) → Rho → Prop} (h : k xs (fun _ => True) ρ) : iAt k (.dat (.list xs)) ρ := h
theorem i_t {ρ : Rho} {k : List D → (Rho → Prop) → Rho → Prop} (h : k xs (fun _ => True) ρ) : iAt k (.dat (.tuple xs)) ρ := h
theorem i_o {ρ : Rho} {k : List D → (Rho → Prop) → Rho → Prop} (h : k xs (fun _ => True) ρ) : iAt k (.own xs) ρ := h
theorem i_r {ρ : Rho} {i : Nat} {b : Bool} {k : List D → (Rho → Prop) → Rho → Prop} (g : gt ρ i = some (.own b xs)) (h : k xs (fun ρ' => deref ρ' (.ref i) = some (.list xs)) ρ) : iAt k (.ref i) ρ := by
  have e : deref ρ (.ref i) = some (.list xs) := by simp only [deref, g]
  simp only [iAt, e]
  exact h
theorem for_rule {g : D → Rho → (Rho → Prop) → Prop} {b : DEn → Rho → Prop} {d : DEn} (I : List D → Rho → Prop) (hn : ∀ ρ, I [] ρ → d.nx ρ)
    (hs : ∀ x xs ρ nx, I (x :: xs) ρ → (∀ ρ', I xs ρ' → nx ρ') → g x ρ fun ρ1 => b { nx := nx, ct := nx, bk := d.nx, rt := d.rt } ρ1) : ∀ xs ρ, I xs ρ → forL g b d xs ρ
  | [], ρ, h => hn ρ h
  | x :: xs, ρ, h => hs x xs ρ _ h fun ρ' h' => for_rule I hn hs xs ρ' h'
theorem an_name {i : Nat} {d : D} {ρ : Rho} {kk : Rho → Prop} (n : notIo ρ i) (h : kk (ρ.set i (some (.dat d)))) : asnN (.name i) d ρ kk := by
  simp only [asnN]
  split
  · rename_i xs e; exact (n xs e).elim
  · exact h
theorem an_two {i j : Nat} {a b : D} {ρ : Rho} {kk : Rho → Prop} (n : notIo ρ i) (m : notIo ρ j) (h : kk ((ρ.set i (some (.dat a))).set j (some (.dat b)))) : asnN (.tup [.name i, .name j]) (.tuple [a, b]) ρ kk := by
  simp only [asnN]
  split
  · exact (n _ ‹gt ρ i = _›).elim
  · exact (m _ ‹gt ρ j = _›).elim
  · exact h
theorem an_three {i j l : Nat} {a b c : D} {ρ : Rho} {kk : Rho → Prop} (n : notIo ρ i) (m : notIo ρ j) (o : notIo ρ l) (h : kk (((ρ.set i (some (.dat a))).set j (some (.dat b))).set l (some (.dat c)))) : asnN (.tup [.name i, .name j, .name l]) (.tuple [a, b, c]) ρ kk := by
  simp only [asnN]
  split
  · exact (n _ ‹gt ρ i = _›).elim
  · exact (m _ ‹gt ρ j = _›).elim
  · exact (o _ ‹gt ρ l = _›).elim
  · exact h
end R
end DL
/-! DL36: the small syntax, run. -/
namespace DL
open PySem PySem.Spec PyProof.Rows L2
abbrev CF := String → List Sl → Option (Rs × List (List D))
abbrev EE := Rho → Option (Rs × Rho)
structure Ev where
  e : EE
  t : Rho → Option (Bool × Rho)
  i : Rho → Option (List D × Option (Nat × List D) × Rho)
  f : Rho → Option (List D × Rho)
  r : Option EE := none
def escE : Rs → Rho → Option (D × Rho)
  | .dat d, ρ => some (d, ρ)
  | .own xs, ρ => some (.list xs, ρ)
  | .ref i, ρ => match gt ρ i with
    | some (.dat d) => some (d, ρ)
    | some (.own false xs) => some (.list xs, ρ.set i (some (.dat (.list xs))))
    | _ => none
def escsE : List Rs → Rho → Option (List D × Rho)
  | [], ρ => some ([], ρ)
  | r :: rs, ρ => (escE r ρ).bind fun (d, ρ1) => (escsE rs ρ1).bind fun (ds, ρ2) => some (d :: ds, ρ2)
def op2E : O2 → D → D → Option Rs
  | .add, .int i, .int j => some (.dat (.int (i + j)))
  | .add, .list xs, .list ys => if decide (xs.length + ys.length ≤ sizeLine) then some (.own (xs ++ ys)) else none
  | .add, .tuple xs, .tuple ys => if decide (xs.length + ys.length ≤ sizeLine) then some (.dat (.tuple (xs ++ ys))) else none
  | .sub, .int i, .int j => some (.dat (.int (i - j)))
  | .mul, .int i, .int j => if decide ((Builtin.Int.intBits i : Int) + (Builtin.Int.intBits j : Int) ≤ 134217728) then some (.dat (.int (i * j))) else none
  | .fdiv, .int i, .int j => if decide (0 < j) && decide (j.natAbs.log2 < 9000) then some (.dat (.int (i / j))) else none
  | .mod, .int i, .int j => if decide (0 < j) then some (.dat (.int (i % j))) else none
  | _, _, _ => none
def cmpE : C2 → D → D → Option Bool
  | .lt, .int i, .int j => some (decide (i < j))
  | .le, .int i, .int j => some (decide (i ≤ j))
  | .gt, .int i, .int j => some (decide (j < i))
  | .ge, .int i, .int j => some (decide (j ≤ i))
  | .eq, x, y => if SeqAt.shaped x && SeqAt.shaped y then some (PyData.eqv x y) else none
  | .ne, x, y => if SeqAt.shaped x && SeqAt.shaped y then some (!PyData.eqv x y) else none
  | .isin, x, .list ys => if SeqAt.shaped x && SeqAt.shaped (.list ys) then some (inD x ys) else none
  | .notin, x, .list ys => if SeqAt.shaped x && SeqAt.shaped (.list ys) then some (!inD x ys) else none
  | .isin, x, .tuple ys => if SeqAt.shaped x && SeqAt.shaped (.tuple ys) then some (inD x ys) else none
  | .notin, x, .tuple ys => if SeqAt.shaped x && SeqAt.shaped (.tuple ys) then some (!inD x ys) else none
  | _, _, _ => none
def idxE : D → D → Option D
  | .list xs, .int i => atI xs i
  | .tuple xs, .int i => atI xs i
  | _, _ => none
def biE : Bi → List D → Option Rs
  | .len, [.list xs] => some (.dat (.int xs.length))
  | .len, [.tuple xs] => some (.dat (.int xs.length))
  | .tuple, [.list xs] => some (.dat (.tuple xs))
  | .tuple, [.tuple xs] => some (.dat (.tuple xs))
  | .list, [.list xs] => some (.own xs)
  | .list, [.tuple xs] => some (.own xs)
  | .abs, [.int i] => some (.dat (.int (if i < 0 then -i else i)))
  | .int, [.int i] => some (.dat (.int i))
  | .isInt, [d] => some (.dat (.bool (isIntD d)))
  | .isBool, [d] => some (.dat (.bool (isBoolD d)))
  | .isTuple, [d] => some (.dat (.bool (isTupleD d)))
  | .isList, [d] => some (.dat (.bool (isListD d)))
  | .sum, [.list xs] => (intsD xs).map fun ns => .dat (.int ns.sum)
  | .all, [.list xs] => (boolsD xs).map fun bs => .dat (.bool (bs.all id))
  | .any, [.list xs] => (boolsD xs).map fun bs => .dat (.bool (bs.any id))
  | .repr, [d] => if d.showable && decide (d.depth ≤ 60) && decide (d.shown.length ≤ sizeLine) then some (.dat (.str d.shown)) else none
  | _, _ => none
theorem escE_ok {r : Rs} {ρ ρ' : Rho} {d : D} (h : escE r ρ = some (d, ρ')) {k : D → Rho → Prop} (q : k d ρ') : esc r ρ k := by
  cases r with
  | dat x => cases h; exact q
  | own x => cases h; exact q
  | ref i =>
    simp only [escE] at h
    simp only [esc]
    split at h
    · rename_i e; (try rw [e]); cases h; exact q
    · rename_i e; (try rw [e]); cases h; exact q
    · cases h
/-! sorting -/
def ins (key : D → Int) (x : D) : List D → List D
  | [] => [x]
  | y :: ys => if key x ≤ key y then x :: y :: ys else y :: ins key x ys
def srt (key : D → Int) : List D → List D
  | [] => []
  | x :: xs => ins key x (srt key xs)
end DL
/-! DL37: expressions, run. -/
namespace DL
open PySem PySem.Spec PyProof.Rows L2
def keyB (B : Int) : D → Int
  | .int i => i
  | .tuple ys => match intsD ys with
    | some ns => TS.code B ns
    | none => 0
  | _ => 0
def tupB (d : Nat) (B : Int) : D → Bool
  | .tuple ys => match intsD ys with
    | some ns => decide (ns.length = d) && ns.all fun m => decide (0 ≤ m) && decide (m < B)
    | none => false
  | _ => false
def sortE (xs : List D) : Option Rs := match intsD xs with
  | some ns => if ns.length < 64 then some (.own (srt (keyB 0) xs)) else none
  | none => match xs with
    | .tuple ys :: _ => if decide (1 ≤ ys.length) && decide (xs.length < 64) && xs.all (tupB ys.length 64) && xs.all (fun x => xs.all fun y => !decide (keyB 64 x = keyB 64 y) || eqD x y) then some (.own (srt (keyB 64) xs)) else none
    | _ => none
def biEE (b : Bi) (ds : List D) : Option Rs := match b, ds with
  | .sorted, [.list xs] => sortE xs
  | _, _ => biE b ds
/-! results that are made from values -/
def tOf (e : EE) : Rho → Option (Bool × Rho) := fun ρ => match e ρ with
  | some (.dat (.bool b), ρ1) => some (b, ρ1)
  | _ => none
def iOf (e : EE) : Rho → Option (List D × Option (Nat × List D) × Rho) := fun ρ => match e ρ with
  | some (.dat (.list xs), ρ1) => some (xs, none, ρ1)
  | some (.dat (.tuple xs), ρ1) => some (xs, none, ρ1)
  | some (.own xs, ρ1) => some (xs, none, ρ1)
  | some (.ref i, ρ1) => match gt ρ1 i with
    | some (.own _ xs) => some (xs, some (i, xs), ρ1)
    | some (.dat (.list xs)) => some (xs, some (i, xs), ρ1)
    | _ => none
  | none => none
  | _ => none
def fOf (e : EE) : Rho → Option (List D × Rho) := fun ρ => (e ρ).bind fun (r, ρ1) => (escE r ρ1).bind fun (d, ρ2) => (seqD d).map fun xs => (xs, ρ2)
def Ev.of (e : EE) : Ev := ⟨e, tOf e, iOf e, fOf e, none⟩
def ckP : Option (Nat × List D) → Rho → Prop
  | none => fun _ => True
  | some (i, xs) => fun ρ => deref ρ (.ref i) = some (.list xs)
structure EvOk (v : Ev) (w : W4) : Prop where
  e : ∀ {ρ r ρ'}, v.e ρ = some (r, ρ') → ∀ {E Q}, Q r ρ' → w.e E ρ Q
  t : ∀ {ρ b ρ'}, v.t ρ = some (b, ρ') → ∀ {E Q}, Q b ρ' → w.t E ρ Q
  i : ∀ {ρ xs c ρ'}, v.i ρ = some (xs, c, ρ') → ∀ {E k}, k xs (ckP c) ρ' → w.i E ρ k
  f : ∀ {ρ xs ρ'}, v.f ρ = some (xs, ρ') → ∀ {E k}, k xs (fun _ => True) ρ' → w.f E ρ k
  r : ∀ {x : EE}, v.r = some x → ∃ w' : W4, (∀ {ρ r ρ'}, x ρ = some (r, ρ') → ∀ {E Q}, Q r ρ' → w'.e E ρ Q) ∧ w.e = fun E ρ Q => eL [w'] E ρ fun rs ρ1 => withs ρ1 rs fun ds => biD .repr ds fun z => Q z ρ1
theorem EvOk.of {e : EE} {w : DTE} (h : ∀ {ρ r ρ'}, e ρ = some (r, ρ') → ∀ {E Q}, Q r ρ' → w E ρ Q) : EvOk (.of e) (.of w) where
  e := fun hh => h hh
  t := fun {ρ b ρ'} hh {E Q} q => by
    have hh : tOf e ρ = some (b, ρ') := hh
    unfold tOf at hh
    split at hh
    · rename_i eh; cases hh; exact h eh q
    · cases hh
  i := fun {ρ xs c ρ'} hh {E k} q => by
    have hh : iOf e ρ = some (xs, c, ρ') := hh
    unfold iOf at hh
    split at hh
    · rename_i eh; cases hh; exact h eh q
    · rename_i eh; cases hh; exact h eh q
    · rename_i eh; cases hh; exact h eh q
    · rename_i i ρ1 eh
      refine h eh ?_
      split at hh
      · rename_i g
        cases hh
        simp only [deref, g]
        exact q
      · rename_i g
        cases hh
        simp only [deref, g]
        exact q
      · cases hh
    · cases hh
    · cases hh
  f := fun {ρ xs ρ'} hh {E k} q => by
    have hh : fOf e ρ = some (xs, ρ') := hh
    simp only [fOf, Option.bind_eq_some_iff, Option.map_eq_some_iff] at hh
    obtain ⟨⟨r, ρ1⟩, h1, ⟨d, ρ2⟩, h2, ys, h3, h4⟩ := hh
    cases h4
    exact h h1 (escE_ok h2 (by simp only [h3]; exact q))
  r := fun {x} hh => by cases hh
mutual
def lenB : D → Nat
  | .none => 4
  | .bool _ => 5
  | .int i => if 0 ≤ i ∧ i < 10 then 1 else 33554432
  | .str _ => 33554432
  | .list xs => lenBs xs + 3
  | .tuple xs => lenBs xs + 4
  | .dict _ => 33554432
def lenBs : List D → Nat
  | [] => 0
  | x :: xs => lenB x + 2 + lenBs xs
end
theorem textFrom_le : ∀ (ts : List Str) (k : Nat) (acc : Str), (textFrom k acc ts).length ≤ acc.length + piled ts
  | [], k, acc => Nat.le_add_right _ _
  | t :: r, k, acc => by
    have ih := textFrom_le r (k + 1) (acc ++ (if k > 0 then ", " else "" : String) ++ t)
    have e : (acc ++ (if k > 0 then ", " else "" : String) ++ t).length ≤ acc.length + 2 + t.length := by
      rw [strLen_append, strLen_append]
      split
      · have : (Str.ofString ", ").length = 2 := rfl
        omega
      · have : (Str.ofString "").length = 0 := rfl
        omega
    have p : piled (t :: r) = t.length + 2 + piled r := by first | rfl | (simp [piled]) | (simp [piled]; omega)
    show (textFrom (k + 1) (acc ++ (if k > 0 then ", " else "" : String) ++ t) r).length ≤ _
    omega
theorem listText_le (ts : List Str) : (listText ts).length ≤ piled ts + 3 := by
  unfold listText
  rw [strLen_append]
  have := textFrom_le ts 0 "["
  have e1 : (Str.ofString "[").length = 1 := rfl
  have e2 : (Str.ofString "]").length = 1 := rfl
  omega
theorem tupleText_le (ts : List Str) : (tupleText ts).length ≤ piled ts + 4 := by
  unfold tupleText
  rw [strLen_append, strLen_append]
  have e1 : (Str.ofString "(").length = 1 := rfl
  have e2 : (Str.ofString (if ts.length == 1 then ",)" else ")" : String)).length ≤ 2 := by
    split
    · exact Nat.le_of_eq rfl
    · exact Nat.le_trans (Nat.le_of_eq rfl) (by decide : 1 ≤ 2)
  cases ts with
  | nil =>
    have : (Str.join ", " []).length = 0 := rfl
    omega
  | cons t r =>
    have := join_length_add (t :: r) (by simp)
    omega
theorem sOk_app (a b : Str) : PyData.strOk (a ++ b) = (PyData.strOk a && PyData.strOk b) := by
  show (a.cps ++ b.cps).all _ = _
  simp only [Array.all_append]
  rfl
theorem sOk_of (t : String) : PyData.strOk (Str.ofString t) = true := by
  rw [Str.ofString_eq_toList]
  show (List.toArray _).all _ = true
  simp only [List.all_toArray, List.all_map, List.all_eq_true, Function.comp_def, decide_eq_true_eq]
  intro c _
  have := c.valid
  unfold UInt32.isValidChar Nat.isValidChar at this
  show c.val.toNat < _
  omega
theorem sOk_from : ∀ (ts : List Str) (k : Nat) (acc : Str), PyData.strOk acc = true → (∀ t ∈ ts, PyData.strOk t = true) → PyData.strOk (textFrom k acc ts) = true
  | [], k, acc, h, _ => h
  | t :: r, k, acc, h, g => by
    show PyData.strOk (textFrom (k + 1) (acc ++ (if k > 0 then ", " else "" : String) ++ t) r) = true
    refine sOk_from r _ _ ?_ fun t' ht => g t' (List.mem_cons_of_mem _ ht)
    rw [sOk_app, sOk_app, h, sOk_of, g t List.mem_cons_self]
    rfl
theorem sOk_join : ∀ (ts : List Str), (∀ t ∈ ts, PyData.strOk t = true) → PyData.strOk (Str.join ", " ts) = true
  | [], _ => by show PyData.strOk Str.empty = true; decide +kernel
  | [x], g => g x List.mem_cons_self
  | x :: y :: r, g => by
    show PyData.strOk (x ++ ", " ++ Str.join ", " (y :: r)) = true
    rw [sOk_app, sOk_app, g x List.mem_cons_self, sOk_of, sOk_join (y :: r) fun t ht => g t (List.mem_cons_of_mem _ ht)]
    rfl
def reprB (d : D) : Bool := d.showable && decide (d.depth ≤ 60) && decide (lenB d ≤ sizeLine)
/-- two texts of data that are the same -/
def neE (v w : EE) : EE := fun ρ => (v ρ).bind fun (r, ρ1) => (deref ρ1 r).bind fun x => (w ρ1).bind fun (s, ρ2) => (deref ρ2 s).bind fun y => if eqD x y && reprB x then some (.dat (.bool false), ρ2) else none
end DL
/-! DL38: expressions, run, and their meaning. -/
namespace DL
open PySem PySem.Spec PyProof.Rows L2
def evA : List Ev → Rho → Option (List Rs × Rho)
  | [], ρ => some ([], ρ)
  | v :: vs, ρ => (v.e ρ).bind fun (r, ρ1) => (evA vs ρ1).bind fun (rs, ρ2) => some (r :: rs, ρ2)
def okSlE : Rho → Nat → Bool := fun ρ i => R.okSl (gt ρ i)
def asnE : Tn → D → Rho → Option Rho
  | .name i, d, ρ => if okSlE ρ i then some (ρ.set i (some (.dat d))) else none
  | .tup [.name i, .name j], .tuple [a, b], ρ => if okSlE ρ i && okSlE ρ j then some ((ρ.set i (some (.dat a))).set j (some (.dat b))) else none
  | .tup [.name i, .name j, .name l], .tuple [a, b, c], ρ => if okSlE ρ i && okSlE ρ j && okSlE ρ l then some (((ρ.set i (some (.dat a))).set j (some (.dat b))).set l (some (.dat c))) else none
  | _, _, _ => none
def ckE : Option (Nat × List D) → Rho → Bool
  | none => fun _ => true
  | some (i, xs) => fun ρ => match gt ρ i with
    | some (.own _ ys) => eqDs ys xs
    | some (.dat (.list ys)) => eqDs ys xs
    | _ => false
def compE (g : D → Rho → Option Rho) (tt : Rho → Option (Bool × Rho)) (te : EE) (ck : Rho → Bool) (own : List Nat) : List D → List D → Rho → Option (List D × Rho)
  | [], acc, ρ => if ck ρ then some (acc, ρ) else none
  | x :: xs, acc, ρ => if ck ρ then (g x ρ).bind fun ρ1 => (tt ρ1).bind fun (b, ρ2) => match b with
      | true => (te ρ2).bind fun (r, ρ3) => (escE r ρ3).bind fun (d, ρ4) => compE g tt te ck own xs (acc ++ [d]) (wipeR ρ4 own)
      | false => compE g tt te ck own xs acc (wipeR ρ2 own)
    else none
def noOwnE (ρ : Rho) (is : List Nat) : Bool := is.all fun i => match gt ρ i with
  | some (.own _ _) => false
  | _ => true
def optE (w : Option Ev) : Rho → Option (Option Int × Rho) := match w with
  | none => fun ρ => some (none, ρ)
  | some v => fun ρ => match v.e ρ with
    | some (.dat (.int i), ρ1) => some (some i, ρ1)
    | _ => none
def rngE : List D → Option (List D)
  | [.int n] => if decide (-(2 ^ 62) ≤ n) && decide (n < 2 ^ 62) && decide (n.toNat ≤ 1000) then some ((List.range n.toNat).map fun (i : Nat) => PyData.int i) else none
  | [.int a, .int b] => if decide (-(2 ^ 62) ≤ a) && decide (a < 2 ^ 62) && decide (-(2 ^ 62) ≤ b) && decide (b < 2 ^ 62) && decide ((b - a).toNat ≤ 1000) then some ((List.range (b - a).toNat).map fun (i : Nat) => PyData.int (a + i)) else none
  | _ => none
def slcE : D → Option Int → Option Int → Option Rs
  | .list xs, lo, hi => some (.own (cutD xs lo hi))
  | .tuple xs, lo, hi => some (.dat (.tuple (cutD xs lo hi)))
  | _, _, _ => none
def noE : EE := fun _ => none
def Ev.no : Ev := ⟨noE, fun _ => none, fun _ => none, fun _ => none, none⟩
def cmpEv (o : C2) (x y : Option EE) (g : EE) : EE := match o, x, y with
  | .ne, some v, some w => neE v w
  | _, _, _ => g
def reprR (b : Bi) (vs : List Ev) : Option EE := match b, vs with
  | .repr, [v] => some v.e
  | _, _ => none
mutual
def ev (C : CF) : Ex → Ev
  | .lit d => .of fun ρ => some (.dat d, ρ)
  | .con _ d => .of fun ρ => some (.dat d, ρ)
  | .var i => .of fun ρ => match gt ρ i with
    | some (.dat d) => some (.dat d, ρ)
    | some (.own _ _) => some (.ref i, ρ)
    | none => none
  | .op2 o a b => .of fun ρ => ((ev C a).e ρ).bind fun (r, ρ1) => ((ev C b).e ρ1).bind fun (s, ρ2) => (deref ρ2 r).bind fun x => (deref ρ2 s).bind fun y => (op2E o x y).bind fun z => some (z, ρ2)
  | .repL es n => .of fun ρ => (evA (evs C es) ρ).bind fun (rs, ρ1) => (escsE rs ρ1).bind fun (ds, ρ2) => match (ev C n).e ρ2 with
    | some (.dat (.int j), ρ3) => if decide (-(2 ^ 63) ≤ j) && decide (j < 2 ^ 63) && decide (ds.length * j.toNat ≤ sizeLine) then some (.own (List.replicate j.toNat ds).flatten, ρ3) else none
    | _ => none
  | .cmp o a b => .of (cmpEv o (ev C a).r (ev C b).r fun ρ => ((ev C a).e ρ).bind fun (r, ρ1) => ((ev C b).e ρ1).bind fun (s, ρ2) => (deref ρ2 r).bind fun x => (deref ρ2 s).bind fun y => (cmpE o x y).bind fun z => some (.dat (.bool z), ρ2))
  | .isN a => .of fun ρ => ((ev C a).e ρ).bind fun (r, ρ1) => (deref ρ1 r).bind fun x => some (.dat (.bool (isNone x)), ρ1)
  | .notN a => .of fun ρ => ((ev C a).e ρ).bind fun (r, ρ1) => (deref ρ1 r).bind fun x => some (.dat (.bool (!isNone x)), ρ1)
  | .chain o o' a b c => .of fun ρ => ((ev C a).e ρ).bind fun (r, ρ1) => ((ev C b).e ρ1).bind fun (s, ρ2) => (deref ρ2 r).bind fun x => (deref ρ2 s).bind fun y => (cmpE o x y).bind fun z => match z with
    | true => ((ev C c).e ρ2).bind fun (t, ρ3) => (deref ρ3 s).bind fun y' => (deref ρ3 t).bind fun u => (cmpE o' y' u).bind fun q => some (.dat (.bool q), ρ3)
    | false => some (.dat (.bool false), ρ2)
  | .neg a => .of fun ρ => match (ev C a).e ρ with
    | some (.dat (.int i), ρ1) => some (.dat (.int (-i)), ρ1)
    | _ => none
  | .not a => ⟨fun ρ => match (ev C a).e ρ with
      | some (.dat (.bool b), ρ1) => some (.dat (.bool (!b)), ρ1)
      | _ => none, fun ρ => ((ev C a).t ρ).bind fun (b, ρ1) => some (!b, ρ1), fun _ => none, fun _ => none, none⟩
  | .and a b => ⟨fun ρ => match (ev C a).e ρ with
      | some (.dat (.bool true), ρ1) => (ev C b).e ρ1
      | some (.dat (.bool false), ρ1) => some (.dat (.bool false), ρ1)
      | _ => none, fun ρ => ((ev C a).t ρ).bind fun (c, ρ1) => (match c with
        | true => (ev C b).t ρ1
        | false => some (false, ρ1)), fun _ => none, fun _ => none, none⟩
  | .or a b => ⟨fun ρ => match (ev C a).e ρ with
      | some (.dat (.bool true), ρ1) => some (.dat (.bool true), ρ1)
      | some (.dat (.bool false), ρ1) => (ev C b).e ρ1
      | _ => none, fun ρ => ((ev C a).t ρ).bind fun (c, ρ1) => (match c with
        | true => some (true, ρ1)
        | false => (ev C b).t ρ1), fun _ => none, fun _ => none, none⟩
  | .ife c a b => .of fun ρ => ((ev C c).t ρ).bind fun (q, ρ1) => match q with
    | true => (ev C a).e ρ1
    | false => (ev C b).e ρ1
  | .tup es => .of fun ρ => (evA (evs C es) ρ).bind fun (rs, ρ1) => (escsE rs ρ1).bind fun (ds, ρ2) => some (.dat (.tuple ds), ρ2)
  | .lst es => .of fun ρ => (evA (evs C es) ρ).bind fun (rs, ρ1) => (escsE rs ρ1).bind fun (ds, ρ2) => some (.own ds, ρ2)
  | .idx a b => .of fun ρ => ((ev C a).e ρ).bind fun (r, ρ1) => ((ev C b).e ρ1).bind fun (s, ρ2) => (deref ρ2 r).bind fun x => (deref ρ2 s).bind fun y => (idxE x y).bind fun z => some (.dat z, ρ2)
  | .slc a lo hi => .of fun ρ => ((ev C a).e ρ).bind fun (r, ρ1) => (optE (evo C lo) ρ1).bind fun (i, ρ2) => (optE (evo C hi) ρ2).bind fun (j, ρ3) => (deref ρ3 r).bind fun x => (slcE x i j).bind fun z => some (z, ρ3)
  | .call f es => .of fun ρ => (evA (evs C es) ρ).bind fun (rs, ρ1) => (escsE rs ρ1).bind fun (ds, ρ2) => (C f (ds.map .dat)).bind fun (r, _) => some (r, ρ2)
  | .callK f _ es => .of fun ρ => (evA (evs C es) ρ).bind fun (rs, ρ1) => (escsE rs ρ1).bind fun (ds, ρ2) => (C f (ds.map .dat)).bind fun (r, _) => some (r, ρ2)
  | .bi b es => { Ev.of (fun ρ => (evA (evs C es) ρ).bind fun (rs, ρ1) => (derefs ρ1 rs).bind fun ds => (biEE b ds).bind fun z => some (z, ρ1)) with r := reprR b (evs C es) }
  | .comp elt tg it ifs own => .of fun ρ => ((ev C it).i ρ).bind fun (xs, c, ρ1) => match noOwnE ρ1 own with
    | true => (compE (asnE tg) (match evo C ifs with
        | none => fun ρ => some (true, ρ)
        | some w => w.t) (ev C elt).e (ckE c) own xs [] (wipeR ρ1 own)).bind fun (acc, ρ2) => some (.own acc, restR ρ1 ρ2 own)
    | false => none
  | .listR es => .of fun ρ => (evA (evs C es) ρ).bind fun (rs, ρ1) => (derefs ρ1 rs).bind fun ds => (rngE ds).bind fun xs => some (.own xs, ρ1)
  | .range es => ⟨noE, fun _ => none, fun ρ => (evA (evs C es) ρ).bind fun (rs, ρ1) => (derefs ρ1 rs).bind fun ds => (rngE ds).bind fun xs => some (xs, none, ρ1),
      fun ρ => (evA (evs C es) ρ).bind fun (rs, ρ1) => (derefs ρ1 rs).bind fun ds => (rngE ds).bind fun xs => some (xs, ρ1), none⟩
  | .enum a => ⟨noE, fun _ => none, fun ρ => (iOf (ev C a).e ρ).bind fun (xs, c, ρ1) => some (enumD xs, c, ρ1), fun ρ => (fOf (ev C a).e ρ).bind fun (xs, ρ1) => some (enumD xs, ρ1), none⟩
  | .callIo _ _ _ => .no
  | .zip _ _ => .no
  | .listZ _ _ => .no
  | .rev _ => .no
  | .pop _ _ => .no
  | .index _ _ => .no
  | .count _ _ => .no
def evs (C : CF) : List Ex → List Ev
  | [] => []
  | e :: es => ev C e :: evs C es
def evo (C : CF) : Option Ex → Option Ev
  | none => none
  | some e => some (ev C e)
end
theorem EvOk.no {w : W4} : EvOk .no w := ⟨fun h => (by cases h), fun h => (by cases h), fun h => (by cases h), fun h => (by cases h), fun h => (by cases h)⟩
end DL
/-! DL39: expressions that were run mean what came out. -/
namespace DL
open PySem PySem.Spec PyProof.Rows L2
end DL
/-! DL40: statements and defs, run. -/
namespace DL
open PySem PySem.Spec PyProof.Rows L2
inductive Ot where
  | nx (ρ : Rho) | rt (r : Rs) (ρ : Rho) | bk (ρ : Rho) | ct (ρ : Rho)
def ownE (ρ : Rho) (i : Nat) : Bool := match gt ρ i with
  | some (.own _ _) => true
  | _ => false
mutual
def asgE (C : CF) : Ta → Rs → Rho → Option Rho
  | .name i, r, ρ => if okSlE ρ i then (match r with
      | .dat d => some (ρ.set i (some (.dat d)))
      | .own xs => some (ρ.set i (some (.own false xs)))
      | .ref j => (escE (.ref j) ρ).bind fun (d, ρ1) => some (ρ1.set i (some (.dat d)))) else none
  | .sub i ix, r, ρ => (escE r ρ).bind fun (d, ρ1) => if ownE ρ1 i then (match (ev C ix).e ρ1 with
      | some (.dat (.int j), ρ2) => (match gt ρ2 i with
        | some (.own b xs) => (ixN xs.length j).bind fun n => some (ρ2.set i (some (.own b (xs.set n d))))
        | _ => none)
      | _ => none) else none
  | .tup ts, r, ρ => match r with
    | .dat (.tuple ds) => if decide (ds.length = ts.length) then asgsE C ts (ds.map .dat) ρ else none
    | _ => none
def asgsE (C : CF) : List Ta → List Rs → Rho → Option Rho
  | [], rs, ρ => match rs with
    | [] => some ρ
    | _ => none
  | t :: ts, rs, ρ => match rs with
    | r :: rs => (asgE C t r ρ).bind fun ρ1 => asgsE C ts rs ρ1
    | [] => none
end
def settleE : List Rs → Rho → Option (List Rs × Rho)
  | [], ρ => some ([], ρ)
  | .ref i :: rs, ρ => (escE (.ref i) ρ).bind fun (d, ρ1) => (settleE rs ρ1).bind fun (rs', ρ2) => some (.dat d :: rs', ρ2)
  | .dat d :: rs, ρ => (settleE rs ρ).bind fun (rs', ρ2) => some (.dat d :: rs', ρ2)
  | .own d :: rs, ρ => (settleE rs ρ).bind fun (rs', ρ2) => some (.own d :: rs', ρ2)
def forE (t : Tn) (b : Rho → Option Ot) : List D → Rho → Option Ot
  | [], ρ => some (.nx ρ)
  | x :: xs, ρ => (asnE t x ρ).bind fun ρ1 => (b ρ1).bind fun o => match o with
    | .nx ρ2 => forE t b xs ρ2
    | .ct ρ2 => forE t b xs ρ2
    | .bk ρ2 => some (.nx ρ2)
    | .rt r ρ2 => some (.rt r ρ2)
mutual
def run (C : CF) : Sm → Rho → Option Ot
  | .asg t e => fun ρ => ((ev C e).e ρ).bind fun (r, ρ1) => (asgE C t r ρ1).bind fun ρ2 => some (.nx ρ2)
  | .par ts es => fun ρ => (evA (evs C es) ρ).bind fun (rs, ρ1) => (settleE rs ρ1).bind fun (rs', ρ2) => (asgsE C ts rs' ρ2).bind fun ρ3 => some (.nx ρ3)
  | .expr e => fun ρ => ((ev C e).e ρ).bind fun (_, ρ1) => some (.nx ρ1)
  | .app i e => fun ρ => if ownE ρ i then ((ev C e).e ρ).bind fun (r, ρ1) => (escE r ρ1).bind fun (x, ρ2) => (match gt ρ2 i with
    | some (.own b xs) => if decide (xs.length < sizeLine) then some (.nx (ρ2.set i (some (.own b (xs ++ [x]))))) else none
    | _ => none) else none
  | .ext i e => fun ρ => if ownE ρ i then ((ev C e).e ρ).bind fun (r, ρ1) => (match r with
    | .own ys => (match gt ρ1 i with
      | some (.own b xs) => if decide (xs.length + ys.length ≤ sizeLine) then some (.nx (ρ1.set i (some (.own b (xs ++ ys))))) else none
      | _ => none)
    | _ => none) else none
  | .ret e => fun ρ => ((ev C e).e ρ).bind fun (r, ρ1) => some (.rt r ρ1)
  | .retN => fun ρ => some (.rt (.dat .none) ρ)
  | .ite c a b => fun ρ => ((ev C c).t ρ).bind fun (q, ρ1) => (match q with
    | true => runs C a ρ1
    | false => runs C b ρ1)
  | .for_ t it b => fun ρ => ((ev C it).f ρ).bind fun (xs, ρ1) => forE t (runs C b) xs ρ1
  | .brk => fun ρ => some (.bk ρ)
  | .cont => fun ρ => some (.ct ρ)
  | .pass => fun ρ => some (.nx ρ)
  | .aug _ _ _ => fun _ => none
  | .ins _ _ _ => fun _ => none
  | .while_ _ _ => fun _ => none
  | .raise_ _ _ => fun _ => none
def runs (C : CF) : List Sm → Rho → Option Ot
  | [] => fun ρ => some (.nx ρ)
  | s :: ss => fun ρ => (run C s ρ).bind fun o => match o with
    | .nx ρ1 => runs C ss ρ1
    | o => some o
end
end DL
/-! DL41: more rules; texts of data by their size; equality of data. -/
namespace DL
open PySem PySem.Spec PyProof.Rows L2
/-! ### texts -/
mutual
def lenC : D → Nat
  | .none => 4
  | .bool _ => 5
  | .int _ => 1922
  | .str _ => 33554432
  | .list xs => lenCs xs + 3
  | .tuple xs => lenCs xs + 4
  | .dict _ => 33554432
def lenCs : List D → Nat
  | [] => 0
  | x :: xs => lenC x + 2 + lenCs xs
end
theorem int_shown {i : Int} (h : i.natAbs.log2 < 1920) : (PyData.shown (.int i)).length ≤ 1922 := by
  have := int_text_length_le (k := 1920) (by decide) h
  show (Str.ofString (toString i)).length ≤ 1922
  rw [Str.ofString_eq_toList]
  show (List.toArray _).size ≤ 1922
  simp only [List.size_toArray, List.length_map]
  have e : (toString i).toList.length = (toString i).length := String.length_toList ..
  omega
mutual
theorem lenC_ok : ∀ d : D, d.showable = true → lenC d < 33554432 → d.shown.length ≤ lenC d
  | .none, _, _ => by show (Str.ofString "None").length ≤ 4; exact Nat.le_of_eq rfl
  | .bool b, _, _ => by
    cases b
    · show (Str.ofString "False").length ≤ 5; exact Nat.le_of_eq rfl
    · show (Str.ofString "True").length ≤ 5; exact Nat.le_trans (Nat.le_of_eq rfl) (by decide : 4 ≤ 5)
  | .int i, g, h => int_shown (by simpa [PyData.showable] using g)
  | .str _, _, h => by simp only [lenC] at h; omega
  | .list xs, g, h => by
    simp only [lenC] at h ⊢
    simp only [PyData.shown]
    simp only [PyData.showable] at g
    have := lenCs_ok xs g (by omega)
    have := listText_le (PyData.shownAll xs)
    omega
  | .tuple xs, g, h => by
    simp only [lenC] at h ⊢
    simp only [PyData.shown]
    simp only [PyData.showable] at g
    have := lenCs_ok xs g (by omega)
    have := tupleText_le (PyData.shownAll xs)
    omega
  | .dict _, _, h => by simp only [lenC] at h; omega
theorem lenCs_ok : ∀ xs : List D, PyData.showableAll xs = true → lenCs xs < 33554432 → piled (PyData.shownAll xs) ≤ lenCs xs
  | [], _, _ => by simp [PyData.shownAll, piled, lenCs]
  | x :: xs, g, h => by
    simp only [lenCs] at h ⊢
    simp only [PyData.showableAll, Bool.and_eq_true] at g
    have := lenC_ok x g.1 (by omega)
    have := lenCs_ok xs g.2 (by omega)
    have p : piled (PyData.shownAll (x :: xs)) = x.shown.length + 2 + piled (PyData.shownAll xs) := by simp only [PyData.shownAll]; first | rfl | (simp [piled]) | (simp [piled]; omega)
    omega
end
mutual
theorem sOkC_shown : ∀ d : D, lenC d < 33554432 → PyData.strOk d.shown = true
  | .none, _ => sOk_of _
  | .bool b, _ => by cases b <;> exact sOk_of _
  | .int i, _ => sOk_of _
  | .str _, h => by simp only [lenC] at h; omega
  | .list xs, h => by
    simp only [lenC] at h
    simp only [PyData.shown, listText]
    rw [sOk_app, sOk_of, sOk_from _ _ _ (sOk_of _) (sOkC_all xs (by omega))]
    rfl
  | .tuple xs, h => by
    simp only [lenC] at h
    simp only [PyData.shown, tupleText]
    rw [sOk_app, sOk_app, sOk_of, sOk_of, sOk_join _ (sOkC_all xs (by omega))]
    rfl
  | .dict _, h => by simp only [lenC] at h; omega
theorem sOkC_all : ∀ xs : List D, lenCs xs < 33554432 → ∀ t ∈ PyData.shownAll xs, PyData.strOk t = true
  | [], _, t, ht => by simp [PyData.shownAll] at ht
  | x :: xs, h, t, ht => by
    simp only [lenCs] at h
    simp only [PyData.shownAll, List.mem_cons] at ht
    rcases ht with rfl | ht
    · exact sOkC_shown x (by omega)
    · exact sOkC_all xs (by omega) t ht
end
/-- a text of at most L signs, e deep; no texts in it; equality and texts are told -/
structure Sh (e L : Nat) (d : D) : Prop where
  sh : d.showable = true
  dp : d.depth ≤ e
  ln : lenC d ≤ L
  cl : d.canLay0 = true
theorem Sh.mono {e L e' L' : Nat} {d : D} (h : Sh e L d) (he : e ≤ e') (hl : L ≤ L') : Sh e' L' d := ⟨h.sh, Nat.le_trans h.dp he, Nat.le_trans h.ln hl, h.cl⟩
theorem sh_none : Sh 0 4 .none := ⟨rfl, by simp [PyData.depth], by simp [lenC], rfl⟩
theorem sh_int {i : Int} (h : i.natAbs < 2 ^ 1920) : Sh 0 1922 (.int i) := by
  refine ⟨?_, by simp [PyData.depth], by simp [lenC], rfl⟩
  simp only [PyData.showable, decide_eq_true_eq]
  by_cases q : i.natAbs = 0
  · rw [q]; decide
  · exact (Nat.log2_lt q).mpr h
theorem shs {e L : Nat} : ∀ {xs : List D}, (∀ x ∈ xs, Sh e L x) → PyData.showableAll xs = true ∧ PyData.depthAll xs ≤ e ∧ lenCs xs ≤ xs.length * (L + 2) ∧ PyData.canLayAll0 xs = true
  | [], _ => ⟨rfl, by simp [PyData.depthAll], by simp [lenCs], rfl⟩
  | x :: xs, h => by
    obtain ⟨a, b, c, d⟩ := shs (xs := xs) fun y hy => h y (List.mem_cons_of_mem _ hy)
    have g := h x List.mem_cons_self
    refine ⟨by simp [PyData.showableAll, a, g.sh], ?_, ?_, by simp [PyData.canLayAll0, d, g.cl]⟩
    · have := g.dp
      simp only [PyData.depthAll]; omega
    · have := g.ln
      simp only [lenCs, List.length_cons, Nat.add_mul]; omega
theorem sh_list {e L : Nat} {xs : List D} (h : ∀ x ∈ xs, Sh e L x) : Sh (e + 1) (xs.length * (L + 2) + 4) (.list xs) := by
  obtain ⟨a, b, c, d⟩ := shs h
  exact ⟨by simpa [PyData.showable] using a, by simp only [PyData.depth]; omega, by simp only [lenC]; omega, by simpa [PyData.canLay0] using d⟩
theorem sh_tup {e L : Nat} {xs : List D} (h : ∀ x ∈ xs, Sh e L x) : Sh (e + 1) (xs.length * (L + 2) + 4) (.tuple xs) := by
  obtain ⟨a, b, c, d⟩ := shs h
  exact ⟨by simpa [PyData.showable] using a, by simp only [PyData.depth]; omega, by simp only [lenC]; omega, by simpa [PyData.canLay0] using d⟩
theorem Sh.repr {e L : Nat} {d : D} (h : Sh e L d) (he : e ≤ 60) (hl : L ≤ 16777216) : ReprOk d := by
  have := h.dp
  have := h.ln
  refine ⟨h.sh, by omega, ?_⟩
  have := lenC_ok d h.sh (by omega)
  rw [sizeLine_eq]; omega
theorem Sh.shp {e L : Nat} {d : D} (h : Sh e L d) (he : e ≤ 60) : shp d := by
  have := h.dp
  unfold DL.shp SeqAt.shaped
  rw [h.cl, Bool.true_and, decide_eq_true_eq]; omega
theorem Sh.shpT {e L : Nat} {d : D} (h : Sh e L d) (hl : L ≤ 16777216) : DL.shp (.str d.shown) := by
  have := h.ln
  unfold DL.shp SeqAt.shaped
  simp only [PyData.canLay0, PyData.depth]
  rw [sOkC_shown d (by omega)]
  rfl
/-! ### equality -/
mutual
/-- no bools, texts, dicts -/
def tame : D → Bool
  | .none | .int _ => true
  | .list xs | .tuple xs => tames xs
  | _ => false
def tames : List D → Bool
  | [] => true
  | x :: xs => tame x && tames xs
end
mutual
theorem eqv_tame : ∀ x y : D, tame x = true → tame y = true → (PyData.eqv x y = true ↔ x = y)
  | .none, .none, _, _ => by simp [PyData.eqv]
  | .int i, .int j, _, _ => by simp [PyData.eqv]
  | .list xs, .list ys, h, g => by
    simp only [tame] at h g
    simp only [PyData.eqv, eqv_tames xs ys h g, PyData.list.injEq]
  | .tuple xs, .tuple ys, h, g => by
    simp only [tame] at h g
    simp only [PyData.eqv, eqv_tames xs ys h g, PyData.tuple.injEq]
  | .none, .int _, _, _ | .none, .list _, _, _ | .none, .tuple _, _, _ | .int _, .none, _, _ | .int _, .list _, _, _ | .int _, .tuple _, _, _ | .list _, .none, _, _ | .list _, .int _, _, _ | .list _, .tuple _, _, _ | .tuple _, .none, _, _ | .tuple _, .int _, _, _ | .tuple _, .list _, _, _ => by simp [PyData.eqv]
  | .bool _, _, h, _ | .str _, _, h, _ | .dict _, _, h, _ => by simp [tame] at h
  | .none, .bool _, _, g | .none, .str _, _, g | .none, .dict _, _, g | .int _, .bool _, _, g | .int _, .str _, _, g | .int _, .dict _, _, g
  | .list _, .bool _, _, g | .list _, .str _, _, g | .list _, .dict _, _, g | .tuple _, .bool _, _, g | .tuple _, .str _, _, g | .tuple _, .dict _, _, g => by simp [tame] at g
theorem eqv_tames : ∀ xs ys : List D, tames xs = true → tames ys = true → (PyData.eqvAll xs ys = true ↔ xs = ys)
  | [], [], _, _ => by simp [PyData.eqvAll]
  | [], y :: ys, _, _ => by simp [PyData.eqvAll]
  | x :: xs, [], _, _ => by simp [PyData.eqvAll]
  | x :: xs, y :: ys, h, g => by
    simp only [tames, Bool.and_eq_true] at h g
    simp only [PyData.eqvAll, Bool.and_eq_true, eqv_tame x y h.1 g.1, eqv_tames xs ys h.2 g.2, List.cons.injEq]
end
theorem eqv_str (s : Str) : PyData.eqv (.str s) (.str s) = true := by simp [PyData.eqv]
namespace R
variable {Γ : Gam} {E : Xn → Prop} {ρ : Rho} {Q : Rs → Rho → Prop}
theorem ienum {a : Ex} {k : List D → (Rho → Prop) → Rho → Prop} (h : (wp Γ a).e E ρ (iAt fun xs ck ρ1 => k (enumD xs) ck ρ1)) : (wp Γ (.enum a)).i E ρ k := by simp only [wp]; exact h
theorem fenum {a : Ex} {k : List D → (Rho → Prop) → Rho → Prop} (h : (wp Γ a).e E ρ fun r ρ1 => esc r ρ1 (fSeq fun xs ck ρ1 => k (enumD xs) ck ρ1)) : (wp Γ (.enum a)).f E ρ k := by simp only [wp]; exact h
theorem irev {a : Ex} {k : List D → (Rho → Prop) → Rho → Prop} (h : (wp Γ a).e E ρ (iAt fun xs ck ρ1 => k xs.reverse ck ρ1)) : (wp Γ (.rev a)).i E ρ k := by simp only [wp]; exact h
theorem frev {a : Ex} {k : List D → (Rho → Prop) → Rho → Prop} (h : (wp Γ a).e E ρ fun r ρ1 => esc r ρ1 (fSeq fun xs ck ρ1 => k xs.reverse ck ρ1)) : (wp Γ (.rev a)).f E ρ k := by simp only [wp]; exact h
def zipAt (k : List D → (Rho → Prop) → Rho → Prop) : List D → Rho → Prop := fun ds ρ2 => match ds with
  | [d, d'] => match seqD d, seqD d' with
    | some xs, some ys => k (zipD xs ys) (fun _ => True) ρ2
    | _, _ => False
  | _ => False
theorem izip {a b : Ex} {k : List D → (Rho → Prop) → Rho → Prop} (h : eL (wps Γ [a, b]) E ρ fun rs ρ1 => escs rs ρ1 (zipAt k)) : (wp Γ (.zip a b)).i E ρ k := by simp only [wp]; simp only [wps] at h; exact h
theorem fzip {a b : Ex} {k : List D → (Rho → Prop) → Rho → Prop} (h : eL (wps Γ [a, b]) E ρ fun rs ρ1 => escs rs ρ1 (zipAt k)) : (wp Γ (.zip a b)).f E ρ k := by simp only [wp]; simp only [wps] at h; exact h
theorem zip_at {k : List D → (Rho → Prop) → Rho → Prop} {d d' : D} {xs ys : List D} (g : seqD d = some xs) (g' : seqD d' = some ys) (h : k (zipD xs ys) (fun _ => True) ρ) : zipAt k [d, d'] ρ := by simp only [zipAt, g, g']; exact h
/-- repr(x) != repr(y) of the same things -/
theorem repr_ne {e L : Nat} {d : D} (h : Sh e L d) (he : e ≤ 60) (hl : L ≤ 16777216) {kb : Bool → Prop} (q : kb false) : cmpD .ne (.str d.shown) (.str d.shown) kb :=
  ⟨h.shpT hl, h.shpT hl, by rw [eqv_str]; exact q⟩
theorem eq_tame {x y : D} {c : Bool} {kb : Bool → Prop} (a : shp x) (b : shp y) (t : tame x = true) (u : tame y = true) (hc : x = y ↔ c = true) (h : kb c) : cmpD .eq x y kb := by
  refine ⟨a, b, ?_⟩
  have : PyData.eqv x y = c := by rw [Bool.eq_iff_iff, eqv_tame x y t u, hc]
  rw [this]; exact h
theorem ne_tame {x y : D} {c : Bool} {kb : Bool → Prop} (a : shp x) (b : shp y) (t : tame x = true) (u : tame y = true) (hc : x = y ↔ c = true) (h : kb (!c)) : cmpD .ne x y kb := by
  refine ⟨a, b, ?_⟩
  have : PyData.eqv x y = c := by rw [Bool.eq_iff_iff, eqv_tame x y t u, hc]
  rw [this]; exact h
theorem eq_i {i j : Int} {kb : Bool → Prop} (h : kb (decide (i = j))) : cmpD .eq (.int i) (.int j) kb := by
  refine ⟨by unfold DL.shp; rfl, by unfold DL.shp; rfl, ?_⟩
  have : PyData.eqv (.int i) (.int j) = decide (i = j) := by simp only [PyData.eqv]; rw [Bool.eq_iff_iff]; simp
  rw [this]; exact h
theorem ne_i {i j : Int} {kb : Bool → Prop} (h : kb (!decide (i = j))) : cmpD .ne (.int i) (.int j) kb := by
  refine ⟨by unfold DL.shp; rfl, by unfold DL.shp; rfl, ?_⟩
  have : PyData.eqv (.int i) (.int j) = decide (i = j) := by simp only [PyData.eqv]; rw [Bool.eq_iff_iff]; simp
  rw [this]; exact h
theorem sretN {d : DEn} (h : d.rt (.dat .none) ρ) : wpS Γ .retN E d ρ := by simp only [wpS]; exact h
theorem swhile {c : Ex} {b : List Sm} {d : DEn} (I : Nat → Rho → Prop) (m0 : Nat) (h0 : I m0 ρ) (hs : ∀ m ρ, I m ρ →
    (wp Γ c).t E ρ fun q ρ1 => if q = true then wpSs Γ b E { nx := fun ρ' => ∃ m', m' < m ∧ I m' ρ', ct := fun ρ' => ∃ m', m' < m ∧ I m' ρ', bk := d.nx, rt := d.rt } ρ1 else d.nx ρ1) : wpS Γ (.while_ c b) E d ρ := by
  simp only [wpS]
  exact ⟨I, ⟨m0, h0⟩, hs⟩
theorem iteN {c : Prop} [Decidable c] {p q : Prop} (h1 : ¬ c → p) (h2 : c → q) : if (!decide c) = true then p else q := by
  by_cases g : c
  · rw [if_neg (by simp [g])]; exact h2 g
  · rw [if_pos (by simp [g])]; exact h1 g
theorem iteB {c : Bool} {p q : Prop} (h1 : c = true → p) (h2 : c = false → q) : if c = true then p else q := by
  cases c
  · exact h2 rfl
  · exact h1 rfl
end R
/-! ### comprehensions and loops over lists that are images -/
section
variable {α : Type}
theorem comp_l {i : Nat} {te : DTE} {ck : Rho → Prop} {q : List D → Rho → Prop} {ρ0 : Rho} (g f : α → D) (hi : gt ρ0 i = none) (hw : ∀ d : D, (ρ0.set i (some (.dat d))).set i none = ρ0) (hck : ck ρ0) :
    ∀ (l : List α) (acc : List D), (∀ x ∈ l, ∀ nx : D → Rho → Prop, nx (f x) (ρ0.set i (some (.dat (g x)))) → te (fun _ => False) (ρ0.set i (some (.dat (g x)))) fun r ρ3 => esc r ρ3 nx) → q (acc ++ l.map f) ρ0 → compL (asnN (.name i)) (fun _ ρ Q => Q true ρ) te ck [i] q (l.map g) acc ρ0
  | [], acc, _, h => by
    simp only [List.map, compL]
    exact ⟨hck, by simpa using h⟩
  | x :: xs, acc, he, h => by
    simp only [List.map, compL]
    refine ⟨hck, R.an_name (R.nio hi rfl) ?_⟩
    rw [if_pos (by trivial)]
    refine he x List.mem_cons_self _ ?_
    simp only [wipeR, hw]
    exact comp_l g f hi hw hck xs _ (fun y hy => he y (List.mem_cons_of_mem _ hy)) (by simpa using h)
/-- with a condition -/
theorem comp_if {i : Nat} {tt : DTT} {te : DTE} {ck : Rho → Prop} {q : List D → Rho → Prop} {ρ0 : Rho} (g f : α → D) (p : α → Bool) (hi : gt ρ0 i = none) (hw : ∀ d : D, (ρ0.set i (some (.dat d))).set i none = ρ0) (hck : ck ρ0) :
    ∀ (l : List α) (acc : List D), (∀ x ∈ l, ∀ nx : Bool → Rho → Prop, nx (p x) (ρ0.set i (some (.dat (g x)))) → tt (fun _ => False) (ρ0.set i (some (.dat (g x)))) nx) →
      (∀ x ∈ l, p x = true → ∀ nx : D → Rho → Prop, nx (f x) (ρ0.set i (some (.dat (g x)))) → te (fun _ => False) (ρ0.set i (some (.dat (g x)))) fun r ρ3 => esc r ρ3 nx) →
      q (acc ++ (l.filter p).map f) ρ0 → compL (asnN (.name i)) tt te ck [i] q (l.map g) acc ρ0
  | [], acc, _, _, h => by
    simp only [List.map, compL]
    exact ⟨hck, by simpa using h⟩
  | x :: xs, acc, ht, he, h => by
    simp only [List.map, compL]
    refine ⟨hck, R.an_name (R.nio hi rfl) ?_⟩
    refine ht x List.mem_cons_self _ ?_
    cases e : p x with
    | true =>
      rw [if_pos rfl]
      refine he x List.mem_cons_self e _ ?_
      simp only [wipeR, hw]
      exact comp_if g f p hi hw hck xs _ (fun y hy => ht y (List.mem_cons_of_mem _ hy)) (fun y hy => he y (List.mem_cons_of_mem _ hy)) (by simpa [List.filter_cons, e] using h)
    | false =>
      rw [if_neg (by simp)]
      simp only [wipeR, hw]
      exact comp_if g f p hi hw hck xs _ (fun y hy => ht y (List.mem_cons_of_mem _ hy)) (fun y hy => he y (List.mem_cons_of_mem _ hy)) (by simpa [List.filter_cons, e] using h)
/-- two names -/
theorem comp_2 {i j : Nat} {te : DTE} {ck : Rho → Prop} {q : List D → Rho → Prop} {ρ0 : Rho} (g g' f : α → D) (hi : gt ρ0 i = none) (hj : gt ρ0 j = none) (hw : ∀ d d' : D, (((ρ0.set i (some (.dat d))).set j (some (.dat d'))).set j none).set i none = ρ0) (hck : ck ρ0) :
    ∀ (l : List α) (acc : List D), (∀ x ∈ l, ∀ nx : D → Rho → Prop, nx (f x) ((ρ0.set i (some (.dat (g x)))).set j (some (.dat (g' x)))) → te (fun _ => False) ((ρ0.set i (some (.dat (g x)))).set j (some (.dat (g' x)))) fun r ρ3 => esc r ρ3 nx) → q (acc ++ l.map f) ρ0 → compL (asnN (.tup [.name i, .name j])) (fun _ ρ Q => Q true ρ) te ck [i, j] q (l.map fun x => .tuple [g x, g' x]) acc ρ0
  | [], acc, _, h => by
    simp only [List.map, compL]
    exact ⟨hck, by simpa using h⟩
  | x :: xs, acc, he, h => by
    simp only [List.map, compL]
    refine ⟨hck, R.an_two (R.nio hi rfl) (R.nio hj rfl) ?_⟩
    rw [if_pos (by trivial)]
    refine he x List.mem_cons_self _ ?_
    simp only [wipeR, hw]
    exact comp_2 g g' f hi hj hw hck xs _ (fun y hy => he y (List.mem_cons_of_mem _ hy)) (by simpa using h)
theorem comp_2if {i j : Nat} {tt : DTT} {te : DTE} {ck : Rho → Prop} {q : List D → Rho → Prop} {ρ0 : Rho} (g g' f : α → D) (p : α → Bool) (hi : gt ρ0 i = none) (hj : gt ρ0 j = none) (hw : ∀ d d' : D, (((ρ0.set i (some (.dat d))).set j (some (.dat d'))).set j none).set i none = ρ0) (hck : ck ρ0) :
    ∀ (l : List α) (acc : List D), (∀ x ∈ l, ∀ nx : Bool → Rho → Prop, nx (p x) ((ρ0.set i (some (.dat (g x)))).set j (some (.dat (g' x)))) → tt (fun _ => False) ((ρ0.set i (some (.dat (g x)))).set j (some (.dat (g' x)))) nx) →
      (∀ x ∈ l, p x = true → ∀ nx : D → Rho → Prop, nx (f x) ((ρ0.set i (some (.dat (g x)))).set j (some (.dat (g' x)))) → te (fun _ => False) ((ρ0.set i (some (.dat (g x)))).set j (some (.dat (g' x)))) fun r ρ3 => esc r ρ3 nx) → q (acc ++ (l.filter p).map f) ρ0 → compL (asnN (.tup [.name i, .name j])) tt te ck [i, j] q (l.map fun x => .tuple [g x, g' x]) acc ρ0
  | [], acc, _, _, h => by
    simp only [List.map, compL]
    exact ⟨hck, by simpa using h⟩
  | x :: xs, acc, ht, he, h => by
    simp only [List.map, compL]
    refine ⟨hck, R.an_two (R.nio hi rfl) (R.nio hj rfl) ?_⟩
    refine ht x List.mem_cons_self _ ?_
    cases e : p x with
    | true =>
      rw [if_pos rfl]
      refine he x List.mem_cons_self e _ ?_
      simp only [wipeR, hw]
      exact comp_2if g g' f p hi hj hw hck xs _ (fun y hy => ht y (List.mem_cons_of_mem _ hy)) (fun y hy => he y (List.mem_cons_of_mem _ hy)) (by simpa [List.filter_cons, e] using h)
    | false =>
      rw [if_neg (by simp)]
      simp only [wipeR, hw]
      exact comp_2if g g' f p hi hj hw hck xs _ (fun y hy => ht y (List.mem_cons_of_mem _ hy)) (fun y hy => he y (List.mem_cons_of_mem _ hy)) (by simpa [List.filter_cons, e] using h)
/-- a loop by what holds ahead of each turn: the rest of the list, a state, its slots -/
theorem for_l {σ : Type} {g : D → Rho → (Rho → Prop) → Prop} {b : DEn → Rho → Prop} {d : DEn} (emb : α → D) (st : σ → Rho) (I : List α → σ → Prop)
    (hs : ∀ x xs s nx, I (x :: xs) s → (∀ s', I xs s' → nx (st s')) → g (emb x) (st s) fun ρ1 => b { nx := nx, ct := nx, bk := d.nx, rt := d.rt } ρ1)
    (hn : ∀ s, I [] s → d.nx (st s)) : ∀ (xs : List α) (s : σ), I xs s → forL g b d (xs.map emb) (st s)
  | [], s, h => hn s h
  | x :: xs, s, h => hs x xs s (forL g b d (xs.map emb)) h fun s' h' => for_l emb st I hs hn xs s' h'
end
theorem noOwn1 {ρ : Rho} {i : Nat} (h : gt ρ i = none) : noOwn ρ [i] := fun j hj b xs e => by
  rcases List.mem_singleton.mp hj with rfl
  rw [h] at e; cases e
theorem noOwn2 {ρ : Rho} {i j : Nat} (h : gt ρ i = none) (g : gt ρ j = none) : noOwn ρ [i, j] := fun l hl b xs e => by
  rcases List.mem_cons.mp hl with rfl | hl
  · rw [h] at e; cases e
  · rcases List.mem_singleton.mp hl with rfl
    rw [g] at e; cases e
/-- nothing, or a datum -/
def NoOw (x : Option Sl) : Prop := x = none ∨ ∃ d, x = some (.dat d)
theorem NoOw.ok {x : Option Sl} (h : NoOw x) : R.okSl x = true := by rcases h with rfl | ⟨d, rfl⟩ <;> rfl
theorem NoOw.n : NoOw none := .inl rfl
theorem NoOw.d {d : D} : NoOw (some (.dat d)) := .inr ⟨d, rfl⟩
theorem noOwnX {ρ : Rho} {i : Nat} {x : Option Sl} (hx : NoOw x) (h : gt ρ i = x) : noOwn ρ [i] := fun j hj b xs e => by
  rcases List.mem_singleton.mp hj with rfl
  rw [h] at e
  rcases hx with rfl | ⟨d, rfl⟩ <;> cases e
/-! ### rows f 0 .. f (n - 1) -/
def tab (n : Nat) (f : Nat → D) : List D := (List.range n).map f
theorem tab_len {n : Nat} {f : Nat → D} : (tab n f).length = n := by simp [tab]
theorem tab_at {n i : Nat} {f : Nat → D} (h : i < n) : atI (tab n f) (i : Int) = some (f i) := atI_nat (by simp [tab, h])
theorem tab_congr {n : Nat} {f g : Nat → D} (h : ∀ i, i < n → f i = g i) : tab n f = tab n g := List.map_congr_left fun i hi => h i (List.mem_range.mp hi)
theorem tab_enum {n : Nat} {f : Nat → D} : enumD (tab n f) = tab n fun i => .tuple [.int i, f i] := by
  unfold enumD tab
  apply List.ext_getElem
  · simp
  · intro i h1 h2
    simp
theorem tab_zip {n : Nat} {f g : Nat → D} : zipD (tab n f) (tab n g) = tab n fun i => .tuple [f i, g i] := by
  unfold zipD tab
  apply List.ext_getElem
  · simp
  · intro i h1 h2
    simp
theorem tab_set {n i : Nat} {f : Nat → D} {v : D} : (tab n f).set i v = tab n fun j => if j = i then v else f j := by
  unfold tab
  apply List.ext_getElem
  · simp
  · intro j h1 h2
    simp only [List.getElem_set, List.getElem_map, List.getElem_range]
    by_cases q : i = j
    · rw [if_pos q, if_pos q.symm]
    · rw [if_neg q, if_neg fun z => q z.symm]
theorem tab_ix {n i : Nat} {f : Nat → D} (h : i < n) : ixN (tab n f).length (i : Int) = some i := by
  rw [tab_len]; unfold ixN; simp [h]
end DL
namespace Mx
/-- the sum of f 0 .. f (n - 1) -/
def sm : Nat → (Nat → Rat) → Rat
  | 0, _ => 0
  | n + 1, f => sm n f + f n
theorem sm_congr {n : Nat} {f g : Nat → Rat} (h : ∀ i, i < n → f i = g i) : sm n f = sm n g := by
  induction n with
  | zero => rfl
  | succ n ih => simp only [sm]; rw [ih fun i hi => h i (by omega), h n (by omega)]
theorem sm_add (n : Nat) (f g : Nat → Rat) : sm n (fun i => f i + g i) = sm n f + sm n g := by
  induction n with
  | zero => simp only [sm]; grind
  | succ n ih => simp only [sm]; rw [ih]; grind
theorem sm_sub (n : Nat) (f g : Nat → Rat) : sm n (fun i => f i - g i) = sm n f - sm n g := by
  induction n with
  | zero => simp only [sm]; grind
  | succ n ih => simp only [sm]; rw [ih]; grind
theorem sm_mul (n : Nat) (c : Rat) (f : Nat → Rat) : sm n (fun i => c * f i) = c * sm n f := by
  induction n with
  | zero => simp only [sm]; grind
  | succ n ih => simp only [sm]; rw [ih]; grind
theorem sm_mulR (n : Nat) (c : Rat) (f : Nat → Rat) : sm n (fun i => f i * c) = sm n f * c := by
  induction n with
  | zero => simp only [sm]; grind
  | succ n ih => simp only [sm]; rw [ih]; grind
theorem sm_zero (n : Nat) : sm n (fun _ => 0) = 0 := by
  induction n with
  | zero => rfl
  | succ n ih => simp only [sm]; rw [ih]; grind
theorem sm_le {n : Nat} {f g : Nat → Rat} (h : ∀ i, i < n → f i ≤ g i) : sm n f ≤ sm n g := by
  induction n with
  | zero => simp [sm]
  | succ n ih =>
    simp only [sm]
    have a := ih fun i hi => h i (by omega)
    have b := h n (by omega)
    grind
theorem sm_nonneg {n : Nat} {f : Nat → Rat} (h : ∀ i, i < n → 0 ≤ f i) : 0 ≤ sm n f := by
  rw [← sm_zero n]; exact sm_le h
theorem sm_zero_each {n : Nat} {f : Nat → Rat} (h : ∀ i, i < n → 0 ≤ f i) (e : sm n f = 0) : ∀ i, i < n → f i = 0 := by
  induction n with
  | zero => intro i hi; omega
  | succ n ih =>
    simp only [sm] at e
    have a := sm_nonneg (n := n) fun i hi => h i (by omega)
    have b := h n (by omega)
    intro i hi
    rcases Nat.lt_succ_iff_lt_or_eq.mp hi with q | rfl
    · exact ih (fun i hi => h i (by omega)) (by grind) i q
    · grind
theorem sm_swap (n m : Nat) (f : Nat → Nat → Rat) : sm n (fun i => sm m (fun j => f i j)) = sm m (fun j => sm n (fun i => f i j)) := by
  induction n with
  | zero => simp only [sm]; rw [sm_zero]
  | succ n ih => simp only [sm]; rw [ih, sm_add]
theorem sm_single (n k : Nat) (hk : k < n) (f : Nat → Rat) : sm n (fun i => if i = k then f i else 0) = f k := by
  induction n with
  | zero => omega
  | succ n ih =>
    simp only [sm]
    by_cases q : k < n
    · rw [ih q, if_neg (by omega)]; grind
    · have : n = k := by omega
      subst this
      rw [if_pos rfl, sm_congr (g := fun _ => 0) fun i hi => if_neg (by omega), sm_zero]; grind
theorem sm_le_each {n : Nat} {f : Nat → Rat} (h : ∀ i, i < n → 0 ≤ f i) : ∀ i, i < n → f i ≤ sm n f := by
  intro k hk
  rw [← sm_single n k hk f]
  exact sm_le fun i hi => by
    by_cases q : i = k
    · rw [if_pos q]; grind
    · rw [if_neg q]; exact h i hi
/-- shares: not below 0, rows of at most 1 -/
structure Sub (n : Nat) (S : Nat → Nat → Rat) : Prop where
  nn : ∀ i j, i < n → j < n → 0 ≤ S i j
  row : ∀ i, i < n → sm n (S i) ≤ 1
/-- reaches one with a loss -/
inductive Out (n : Nat) (S : Nat → Nat → Rat) : Nat → Prop
  | loss {i : Nat} : i < n → sm n (S i) < 1 → Out n S i
  | step {i j : Nat} : i < n → j < n → S i j ≠ 0 → Out n S j → Out n S i
theorem sub_zero {n : Nat} {S : Nat → Nat → Rat} (h : Sub n S) (o : ∀ i, i < n → Out n S i) (y : Nat → Rat) (hy : ∀ i, i < n → 0 ≤ y i)
    (le : ∀ j, j < n → y j ≤ sm n (fun i => y i * S i j)) : ∀ i, i < n → y i = 0 := by
  have e1 : sm n (fun j => sm n (fun i => y i * S i j)) = sm n (fun i => y i * sm n (S i)) := by
    rw [sm_swap]; exact sm_congr fun i hi => sm_mul n (y i) (S i)
  have l1 : ∀ i, i < n → y i * sm n (S i) ≤ y i := fun i hi => by
    have := Rat.mul_le_mul_of_nonneg_left (h.row i hi) (hy i hi)
    grind
  have l2 := sm_le le
  have l3 := sm_le l1
  have z1 := sm_zero_each (f := fun i => y i - y i * sm n (S i)) (fun i hi => by have := l1 i hi; grind) (by rw [sm_sub]; grind)
  have z2 := sm_zero_each (f := fun j => sm n (fun i => y i * S i j) - y j) (fun i hi => by have := le i hi; grind) (by rw [sm_sub]; grind)
  intro i hi
  have := o i hi
  clear hi
  induction this with
  | @loss i hi q =>
    have := z1 i hi
    have : y i * (1 - sm n (S i)) = 0 := by rw [← this]; grind
    grind
  | @step i j hi hj q _ ih =>
    have a := z2 j hj
    have b := sm_zero_each (f := fun i => y i * S i j) (fun k hk => Rat.mul_nonneg (hy k hk) (h.nn k j hk hj)) (by grind) i hi
    grind
end Mx
namespace Mx
/-- reached from some -/
inductive Rch (n : Nat) (e : Nat → Nat → Bool) (U : Nat → Bool) : Nat → Prop
  | base {j : Nat} : j < n → U j = true → Rch n e U j
  | step {i j : Nat} : Rch n e U i → j < n → e i j = true → Rch n e U j
theorem Rch.lt {n : Nat} {e : Nat → Nat → Bool} {U : Nat → Bool} {j : Nat} (h : Rch n e U j) : j < n := by cases h <;> assumption
theorem Rch.trans {n : Nat} {e : Nat → Nat → Bool} {U V : Nat → Bool} (hv : ∀ i, i < n → V i = true → Rch n e U i) {j : Nat} (h : Rch n e V j) : Rch n e U j := by
  induction h with
  | base a b => exact hv _ a b
  | step _ b c ih => exact ih.step b c
/-- one step more -/
def gr (n : Nat) (e : Nat → Nat → Bool) (p : Nat → Bool) : Nat → Bool := fun j => p j || (List.range n).any fun i => p i && e i j
def grs (n : Nat) (e : Nat → Nat → Bool) (p : Nat → Bool) : Nat → (Nat → Bool)
  | 0 => p
  | k + 1 => gr n e (grs n e p k)
def cnt : Nat → (Nat → Bool) → Nat
  | 0, _ => 0
  | n + 1, p => cnt n p + if p n then 1 else 0
theorem cnt_le (n : Nat) (p : Nat → Bool) : cnt n p ≤ n := by
  induction n with
  | zero => exact Nat.le_refl _
  | succ n ih => simp only [cnt]; split <;> omega
theorem cnt_mono {n : Nat} {p q : Nat → Bool} (h : ∀ i, i < n → p i = true → q i = true) : cnt n p ≤ cnt n q := by
  induction n with
  | zero => exact Nat.le_refl _
  | succ n ih =>
    simp only [cnt]
    have := ih fun i hi => h i (by omega)
    have := h n (by omega)
    split <;> split <;> simp_all
    omega
theorem cnt_lt {n : Nat} {p q : Nat → Bool} (h : ∀ i, i < n → p i = true → q i = true) {k : Nat} (hk : k < n) (a : p k = false) (b : q k = true) : cnt n p < cnt n q := by
  induction n with
  | zero => omega
  | succ n ih =>
    simp only [cnt]
    have m := cnt_mono fun i (hi : i < n) => h i (by omega)
    rcases Nat.lt_succ_iff_lt_or_eq.mp hk with g | rfl
    · have := ih (fun i hi => h i (by omega)) g
      have := h n (by omega)
      split <;> split <;> simp_all <;> omega
    · rw [a, b]; simp; omega
theorem cnt_full {n : Nat} {p : Nat → Bool} (h : n ≤ cnt n p) : ∀ i, i < n → p i = true := by
  intro i hi
  cases q : p i with
  | true => rfl
  | false =>
    have := cnt_lt (n := n) (p := p) (q := fun _ => true) (fun _ _ _ => rfl) hi q rfl
    have := cnt_le n fun _ => true
    omega
def closed (n : Nat) (e : Nat → Nat → Bool) (p : Nat → Bool) : Prop := ∀ i j, i < n → j < n → p i = true → e i j = true → p j = true
theorem gr_of {n : Nat} {e : Nat → Nat → Bool} {p : Nat → Bool} {j : Nat} : gr n e p j = true ↔ p j = true ∨ ∃ i, i < n ∧ p i = true ∧ e i j = true := by
  simp only [gr, Bool.or_eq_true, List.any_eq_true, List.mem_range, Bool.and_eq_true]
theorem grs_closed (n : Nat) (e : Nat → Nat → Bool) (p : Nat → Bool) : ∀ k, closed n e (grs n e p k) ∨ k ≤ cnt n (grs n e p k)
  | 0 => .inr (Nat.zero_le _)
  | k + 1 => by
    rcases grs_closed n e p k with h | h
    · left
      intro i j hi hj a b
      rcases gr_of.mp a with a | ⟨l, hl, a, c⟩
      · exact gr_of.mpr (.inr ⟨i, hi, a, b⟩)
      · exact gr_of.mpr (.inr ⟨i, hi, h l i hl hi a c, b⟩)
    · by_cases g : closed n e (grs n e p k)
      · left
        intro i j hi hj a b
        rcases gr_of.mp a with a | ⟨l, hl, a, c⟩
        · exact gr_of.mpr (.inr ⟨i, hi, a, b⟩)
        · exact gr_of.mpr (.inr ⟨i, hi, g l i hl hi a c, b⟩)
      · right
        have : ∃ i j, i < n ∧ j < n ∧ grs n e p k i = true ∧ e i j = true ∧ grs n e p k j = false := by
          apply Classical.byContradiction
          intro z
          apply g
          intro i j hi hj a b
          cases q : grs n e p k j with
          | true => rfl
          | false => exact (z ⟨i, j, hi, hj, a, b, q⟩).elim
        obtain ⟨i, j, hi, hj, a, b, c⟩ := this
        have := cnt_lt (n := n) (p := grs n e p k) (q := gr n e (grs n e p k)) (fun i _ z => gr_of.mpr (.inl z)) hj c (gr_of.mpr (.inr ⟨i, hi, a, b⟩))
        simp only [grs]
        omega
theorem grs_mono (n : Nat) (e : Nat → Nat → Bool) (p : Nat → Bool) {j : Nat} (h : p j = true) : ∀ k, grs n e p k j = true
  | 0 => h
  | k + 1 => gr_of.mpr (.inl (grs_mono n e p h k))
theorem grs_rch {n : Nat} {e : Nat → Nat → Bool} {p : Nat → Bool} : ∀ {k j : Nat}, j < n → grs n e p k j = true → Rch n e p j
  | 0, _, hj, h => .base hj h
  | k + 1, j, hj, h => by
    rcases gr_of.mp h with a | ⟨i, hi, a, b⟩
    · exact grs_rch hj a
    · exact (grs_rch hi a).step hj b
/-- n steps are enough -/
theorem grs_iff {n : Nat} {e : Nat → Nat → Bool} {p : Nat → Bool} {j : Nat} (hj : j < n) : grs n e p n j = true ↔ Rch n e p j := by
  refine ⟨grs_rch hj, fun h => ?_⟩
  have c : closed n e (grs n e p n) := by
    rcases grs_closed n e p n with h | h
    · exact h
    · intro i j hi hj _ _
      exact cnt_full h j hj
  clear hj
  induction h with
  | base a b => exact grs_mono n e p b n
  | step a b d ih => exact c _ _ a.lt b ih d
/-! the program's way -/
def grow (n : Nat) (e : Nat → Nat → Bool) (l : List Nat) : List Nat := (List.range n).filter fun j => l.contains j || l.any fun i => e i j
def grows (n : Nat) (e : Nat → Nat → Bool) (l : List Nat) : Nat → List Nat
  | 0 => l
  | k + 1 => grow n e (grows n e l k)
theorem grows_succ (n : Nat) (e : Nat → Nat → Bool) (l : List Nat) (k : Nat) : grows n e (grow n e l) k = grows n e l (k + 1) := by
  induction k with
  | zero => rfl
  | succ k ih => simp only [grows] at ih ⊢; rw [ih]
theorem grow_lt {n : Nat} {e : Nat → Nat → Bool} {l : List Nat} : ∀ i ∈ grow n e l, i < n := fun i h => List.mem_range.mp (List.mem_filter.mp h).1
theorem grows_lt {n : Nat} {e : Nat → Nat → Bool} {l : List Nat} (h : ∀ i ∈ l, i < n) : ∀ k, ∀ i ∈ grows n e l k, i < n
  | 0 => h
  | k + 1 => grow_lt
theorem grow_eq {n : Nat} {e : Nat → Nat → Bool} {l : List Nat} {p : Nat → Bool} (h : ∀ i ∈ l, i < n) (hp : ∀ i, i < n → (l.contains i = p i)) : grow n e l = (List.range n).filter (gr n e p) := by
  refine List.filter_congr fun j hj => ?_
  have hj := List.mem_range.mp hj
  rw [hp j hj]
  simp only [gr]
  congr 1
  rw [Bool.eq_iff_iff, List.any_eq_true, List.any_eq_true]
  constructor
  · rintro ⟨i, a, b⟩
    exact ⟨i, List.mem_range.mpr (h i a), by rw [← hp i (h i a), b]; simpa using a⟩
  · rintro ⟨i, a, b⟩
    rw [Bool.and_eq_true, ← hp i (List.mem_range.mp a)] at b
    exact ⟨i, by simpa using b.1, b.2⟩
theorem grows_eq {n : Nat} {e : Nat → Nat → Bool} {l : List Nat} (h : ∀ i ∈ l, i < n) : ∀ k, ∀ i, i < n → ((grows n e l k).contains i = grs n e (fun i => l.contains i) k i)
  | 0, _, _ => rfl
  | k + 1, i, hi => by
    simp only [grows, grs]
    rw [grow_eq (grows_lt h k) (grows_eq h k)]
    rw [Bool.eq_iff_iff]
    simp [hi]
open Classical in
/-- the reached ones, ascending -/
noncomputable def rchL (n : Nat) (e : Nat → Nat → Bool) (U : Nat → Bool) : List Nat := (List.range n).filter fun j => decide (Rch n e U j)
theorem mem_rchL {n : Nat} {e : Nat → Nat → Bool} {U : Nat → Bool} {j : Nat} : j ∈ rchL n e U ↔ Rch n e U j := by
  unfold rchL
  simp only [List.mem_filter, List.mem_range, decide_eq_true_iff]
  exact ⟨And.right, fun h => ⟨h.lt, h⟩⟩
theorem grows_rch {n : Nat} {e : Nat → Nat → Bool} {l : List Nat} (hn : 0 < n) (h : ∀ i ∈ l, i < n) : grows n e l n = rchL n e fun i => l.contains i := by
  obtain ⟨k, rfl⟩ : ∃ k, n = k + 1 := ⟨n - 1, by omega⟩
  have : grows (k + 1) e l (k + 1) = (List.range (k + 1)).filter (gr (k + 1) e (grs (k + 1) e (fun i => l.contains i) k)) := by
    simp only [grows]
    rw [grow_eq (grows_lt h k) (grows_eq h k)]
  rw [this]
  refine List.filter_congr fun j hj => ?_
  have := grs_iff (n := k + 1) (e := e) (p := fun i => l.contains i) (List.mem_range.mp hj)
  simp only [grs] at this
  rw [Bool.eq_iff_iff, this]; simp
/-! the law's way -/
def put (e : Nat → Nat → Bool) (l : List Nat) (j : Nat) : List Nat := if !l.contains j && l.any (fun i => e i j) then l ++ [j] else l
def lap (n : Nat) (e : Nat → Nat → Bool) (l : List Nat) : List Nat := (List.range n).foldl (put e) l
def laps (n : Nat) (e : Nat → Nat → Bool) (l : List Nat) : Nat → List Nat
  | 0 => l
  | k + 1 => lap n e (laps n e l k)
theorem put_sub {e : Nat → Nat → Bool} {l : List Nat} {j i : Nat} (h : i ∈ l) : i ∈ put e l j := by
  unfold put; split
  · exact List.mem_append_left _ h
  · exact h
theorem put_nodup {e : Nat → Nat → Bool} {l : List Nat} {j : Nat} (h : l.Nodup) : (put e l j).Nodup := by
  unfold put; split
  · rename_i q
    rw [Bool.and_eq_true] at q
    rw [List.nodup_append]
    refine ⟨h, by simp, fun a ha b hb => ?_⟩
    simp only [List.mem_singleton] at hb
    subst hb
    rintro rfl
    simp [ha] at q
  · exact h
theorem foldl_put_sub {e : Nat → Nat → Bool} {i : Nat} : ∀ (xs : List Nat) {l : List Nat}, i ∈ l → i ∈ xs.foldl (put e) l
  | [], _, h => h
  | x :: xs, _, h => foldl_put_sub xs (put_sub h)
theorem foldl_put_has {e : Nat → Nat → Bool} {i j : Nat} : ∀ (xs : List Nat) {l : List Nat}, j ∈ xs → i ∈ l → e i j = true → j ∈ xs.foldl (put e) l
  | [], _, h, _, _ => by cases h
  | x :: xs, l, h, hi, he => by
    rcases List.mem_cons.mp h with rfl | h
    · refine foldl_put_sub xs ?_
      unfold put; split
      · simp
      · rename_i q
        rw [Bool.and_eq_true] at q
        apply Classical.byContradiction
        intro z
        exact q ⟨by simpa using z, List.any_eq_true.mpr ⟨i, hi, he⟩⟩
    · exact foldl_put_has xs h (put_sub hi) he
theorem foldl_put_inv {e : Nat → Nat → Bool} {I : List Nat → Prop} : ∀ (xs : List Nat) {l : List Nat}, (∀ l j, j ∈ xs → I l → I (put e l j)) → I l → I (xs.foldl (put e) l)
  | [], _, _, h => h
  | x :: xs, _, hs, h => foldl_put_inv xs (fun l j hj => hs l j (List.mem_cons_of_mem _ hj)) (hs _ x List.mem_cons_self h)
theorem laps_nodup {n : Nat} {e : Nat → Nat → Bool} {l : List Nat} (h : l.Nodup) : ∀ k, (laps n e l k).Nodup
  | 0 => h
  | k + 1 => foldl_put_inv _ (fun _ _ _ => put_nodup) (laps_nodup h k)
theorem laps_sound {n : Nat} {e : Nat → Nat → Bool} {U : Nat → Bool} {l : List Nat} (h : ∀ i ∈ l, Rch n e U i) : ∀ k, ∀ i ∈ laps n e l k, Rch n e U i
  | 0 => h
  | k + 1 => by
    refine foldl_put_inv (I := fun l => ∀ i ∈ l, Rch n e U i) _ (fun l j hj hl i hi => ?_) (laps_sound h k)
    unfold put at hi
    split at hi
    · rename_i q
      rw [Bool.and_eq_true] at q
      rcases List.mem_append.mp hi with a | a
      · exact hl i a
      · simp only [List.mem_singleton] at a
        subst a
        obtain ⟨m, hm, he⟩ := List.any_eq_true.mp q.2
        exact (hl m hm).step (List.mem_range.mp hj) he
    · exact hl i hi
theorem laps_full {n : Nat} {e : Nat → Nat → Bool} {l : List Nat} : ∀ k, ∀ j, j < n → grs n e (fun i => l.contains i) k j = true → j ∈ laps n e l k
  | 0, j, _, h => by
    have h : l.contains j = true := h
    show j ∈ l
    simpa using h
  | k + 1, j, hj, h => by
    rcases gr_of.mp h with a | ⟨i, hi, a, b⟩
    · exact foldl_put_sub _ (laps_full k j hj a)
    · exact foldl_put_has _ (List.mem_range.mpr hj) (laps_full k i hi a) b
theorem laps_mem {n : Nat} {e : Nat → Nat → Bool} {u : Nat} (hu : u < n) {j : Nat} : j ∈ laps n e [u] n ↔ Rch n e (fun i => i == u) j := by
  have e1 : (fun i => [u].contains i) = fun i => i == u := by funext i; rw [Bool.eq_iff_iff]; simp
  constructor
  · refine laps_sound (fun i hi => ?_) n j
    simp only [List.mem_singleton] at hi
    subst hi
    exact .base hu (by simp)
  · intro h
    refine laps_full n j h.lt ?_
    rw [e1]
    exact (grs_iff h.lt).mpr h
/-- an ascending arrangement of the found ones -/
theorem laps_sorted {n : Nat} {e : Nat → Nat → Bool} {u : Nat} (hu : u < n) {l : List Nat} (hp : l.Perm (laps n e [u] n)) (hs : l.Pairwise (· ≤ ·)) : l = rchL n e fun i => i == u := by
  have p2 : l.Perm (rchL n e fun i => i == u) := by
    have nd : (rchL n e fun i => i == u).Nodup := List.nodup_range.sublist List.filter_sublist
    rw [List.perm_ext_iff_of_nodup (hp.nodup_iff.mpr (laps_nodup (by simp) n)) nd]
    intro a
    rw [hp.mem_iff, laps_mem hu, mem_rchL]
  refine p2.eq_of_pairwise (le := (· ≤ ·)) (fun a b _ _ h1 h2 => Nat.le_antisymm h1 h2) hs ?_
  exact ((List.pairwise_lt_range (n := n)).imp fun h => Nat.le_of_lt h).filter _
end Mx
namespace Mx
/-! elimination: rows 0 .. m - 1, columns 0 .. m (the last one: the right sides) -/
def swp (A : Nat → Nat → Rat) (p q : Nat) : Nat → Nat → Rat := fun i => if i = p then A q else if i = q then A p else A i
def elm (A : Nat → Nat → Rat) (p q : Nat) : Nat → Nat → Rat := fun i j => if i = p then A q j / A q p else swp A p q i j - swp A p q i p * (A q j / A q p)
/-- solutions of the system with right sides c times the last column -/
def sol (m : Nat) (A : Nat → Nat → Rat) (c : Rat) (x : Nat → Rat) : Prop := ∀ i, i < m → sm m (fun j => A i j * x j) = c * A i m
theorem swp_sol {m : Nat} {A : Nat → Nat → Rat} {c : Rat} {x : Nat → Rat} {p q : Nat} (hp : p < m) (hq : q < m) (h : sol m A c x) : sol m (swp A p q) c x := by
  intro i hi
  unfold swp
  by_cases a : i = p
  · rw [if_pos a]; exact h q hq
  · rw [if_neg a]
    by_cases b : i = q
    · rw [if_pos b]; exact h p hp
    · rw [if_neg b]; exact h i hi
theorem swp_swp {A : Nat → Nat → Rat} {p q : Nat} : swp (swp A p q) p q = A := by
  funext i
  unfold swp
  by_cases a : i = p
  · subst a
    rw [if_pos rfl]
    by_cases b : q = i
    · subst b; rw [if_pos rfl]
    · rw [if_neg b, if_pos rfl]
  · rw [if_neg a]
    by_cases b : i = q
    · subst b; rw [if_pos rfl, if_pos rfl]
    · rw [if_neg b, if_neg a, if_neg b]
def red (B : Nat → Nat → Rat) (p : Nat) : Nat → Nat → Rat := fun i j => if i = p then B p j / B p p else B i j - B i p * (B p j / B p p)
theorem elm_red {A : Nat → Nat → Rat} {p q : Nat} : elm A p q = red (swp A p q) p := by
  funext i j
  unfold elm red
  have : swp A p q p = A q := by unfold swp; rw [if_pos rfl]
  rw [this]
theorem red_row {m : Nat} {B : Nat → Nat → Rat} {x : Nat → Rat} {p i : Nat} : sm m (fun j => red B p i j * x j) = if i = p then sm m (fun j => B p j * x j) / B p p else sm m (fun j => B i j * x j) - B i p * (sm m (fun j => B p j * x j) / B p p) := by
  unfold red
  by_cases a : i = p
  · simp only [if_pos a]
    rw [Rat.div_def, ← sm_mulR]
    exact sm_congr fun j hj => by grind
  · simp only [if_neg a]
    rw [Rat.div_def, ← sm_mulR, ← sm_mul, ← sm_sub]
    exact sm_congr fun j hj => by grind
theorem red_sol {m : Nat} {B : Nat → Nat → Rat} {c : Rat} {x : Nat → Rat} {p : Nat} (hp : p < m) (h0 : B p p ≠ 0) : sol m (red B p) c x ↔ sol m B c x := by
  constructor
  · intro h i hi
    have e := h p hp
    rw [red_row, if_pos rfl] at e
    have e' : red B p p m = B p m / B p p := by unfold red; rw [if_pos rfl]
    rw [e'] at e
    have ep : sm m (fun j => B p j * x j) = c * B p m := by grind
    by_cases a : i = p
    · subst a; exact ep
    · have f := h i hi
      rw [red_row, if_neg a] at f
      have f' : red B p i m = B i m - B i p * (B p m / B p p) := by unfold red; rw [if_neg a]
      rw [f', ep] at f
      grind
  · intro h i hi
    rw [red_row]
    have ep := h p hp
    by_cases a : i = p
    · have e' : red B p i m = B p m / B p p := by unfold red; rw [if_pos a]
      rw [if_pos a, e', ep]; grind
    · have f' : red B p i m = B i m - B i p * (B p m / B p p) := by unfold red; rw [if_neg a]
      rw [if_neg a, f', ep, h i hi]; grind
theorem elm_sol {m : Nat} {A : Nat → Nat → Rat} {c : Rat} {x : Nat → Rat} {p q : Nat} (hp : p < m) (hq : q < m) (h0 : A q p ≠ 0) : sol m (elm A p q) c x ↔ sol m A c x := by
  rw [elm_red, red_sol hp (by unfold swp; rw [if_pos rfl]; exact h0)]
  exact ⟨fun h => by have := swp_sol hp hq h; rw [swp_swp] at this; exact this, swp_sol hp hq⟩
/-- only the zero solution -/
def inj (m : Nat) (A : Nat → Nat → Rat) : Prop := ∀ x, sol m A 0 x → ∀ j, j < m → x j = 0
def units (m k : Nat) (A : Nat → Nat → Rat) : Prop := ∀ i j, i < m → j < k → A i j = if i = j then 1 else 0
theorem elm_units {m : Nat} {A : Nat → Nat → Rat} {p q : Nat} (hp : p < m) (hq : q < m) (hpq : p ≤ q) (h0 : A q p ≠ 0) (h : units m p A) : units m (p + 1) (elm A p q) := by
  intro i j hi hj
  unfold elm
  rcases Nat.lt_succ_iff_lt_or_eq.mp hj with g | rfl
  · have z : A q j = 0 := by rw [h q j hq g, if_neg (by omega)]
    rw [z]
    by_cases a : i = p
    · rw [if_pos a, if_neg (by omega)]; grind
    · rw [if_neg a]
      have : swp A p q i j = if i = j then 1 else 0 := by
        unfold swp
        rw [if_neg a]
        by_cases b : i = q
        · rw [if_pos b, h p j hp g]
          rw [if_neg (by omega), if_neg (by omega)]
        · rw [if_neg b]; exact h i j hi g
      rw [this]; grind
  · by_cases a : i = j
    · rw [if_pos a, if_pos a]; grind
    · rw [if_neg a, if_neg a]; grind
theorem has_pivot {m k : Nat} {A : Nat → Nat → Rat} (hk : k < m) (hu : units m k A) (hi : inj m A) : ∃ q, k ≤ q ∧ q < m ∧ A q k ≠ 0 := by
  apply Classical.byContradiction
  intro no
  have z : ∀ q, k ≤ q → q < m → A q k = 0 := fun q a b => Classical.byContradiction fun c => no ⟨q, a, b, c⟩
  have := hi (fun j => if j = k then 1 else if j < k then - A j k else 0) ?_ k hk
  · simp at this
  · intro i hm
    have e : sm m (fun j => A i j * (if j = k then 1 else if j < k then - A j k else 0)) = sm m (fun j => if j = k then A i k else 0) + sm m (fun j => if j = i then (if i < k then - A i k else 0) else 0) := by
      rw [← sm_add]
      refine sm_congr fun j hj => ?_
      by_cases a : j = k
      · subst a
        rw [if_pos rfl, if_pos rfl]
        by_cases b : j = i
        · subst b; rw [if_pos rfl, if_neg (by omega)]; grind
        · rw [if_neg b]; grind
      · rw [if_neg a, if_neg a]
        by_cases b : j < k
        · rw [if_pos b, hu i j hm b]
          by_cases c : i = j
          · subst c; rw [if_pos rfl, if_pos rfl, if_pos b]; grind
          · rw [if_neg c, if_neg (by omega)]; grind
        · rw [if_neg b]
          by_cases c : j = i
          · subst c; rw [if_pos rfl, if_neg b]; grind
          · rw [if_neg c]; grind
    rw [e, sm_single m k hk (fun _ => A i k), sm_single m i hm (fun _ => if i < k then - A i k else 0)]
    by_cases b : i < k
    · rw [if_pos b]; grind
    · rw [if_neg b, z i (by omega) hm]; grind
theorem units_sol {m : Nat} {A : Nat → Nat → Rat} (hu : units m m A) : sol m A 1 fun j => A j m := by
  intro i hi
  have : sm m (fun j => A i j * A j m) = sm m (fun j => if j = i then A i m else 0) := by
    refine sm_congr fun j hj => ?_
    rw [hu i j hi hj]
    by_cases a : i = j
    · subst a; rw [if_pos rfl, if_pos rfl]; grind
    · rw [if_neg a, if_neg (by omega)]; grind
  rw [this, sm_single m i hi (fun _ => A i m)]; grind
/-! sizes: each entry a fraction of ints of few bits -/
structure Bits (m : Nat) (w : Nat → Int) (b : Nat) (A : Nat → Nat → Rat) : Prop where
  ex : ∃ (N : Nat → Nat → Int) (D : Nat → Int), ∀ i, i < m → D i ≠ 0 ∧ (D i).natAbs < 2 ^ b ∧ ∀ j, j ≤ m → (N i j).natAbs < 2 ^ b ∧ A i j * (w j : Rat) = (N i j : Rat) / (D i : Rat)
theorem natAbs_mul_lt {a b : Int} {s t : Nat} (ha : a.natAbs < 2 ^ s) (hb : b.natAbs < 2 ^ t) : (a * b).natAbs < 2 ^ (s + t) := by
  rw [Int.natAbs_mul, Nat.pow_add]
  exact Nat.mul_lt_mul'' ha hb
theorem cast_ne {a : Int} (h : a ≠ 0) : (a : Rat) ≠ 0 := fun z => h (by exact_mod_cast z)
end Mx
namespace Mx
/-- where something is: reaches one with a loss -/
theorem sub_zero' {n : Nat} {S : Nat → Nat → Rat} (h : Sub n S) (y : Nat → Rat) (o : ∀ i, i < n → y i ≠ 0 → Out n S i) (hy : ∀ i, i < n → 0 ≤ y i)
    (le : ∀ j, j < n → y j ≤ sm n (fun i => y i * S i j)) : ∀ i, i < n → y i = 0 := by
  have e1 : sm n (fun j => sm n (fun i => y i * S i j)) = sm n (fun i => y i * sm n (S i)) := by
    rw [sm_swap]; exact sm_congr fun i hi => sm_mul n (y i) (S i)
  have l1 : ∀ i, i < n → y i * sm n (S i) ≤ y i := fun i hi => by
    have := Rat.mul_le_mul_of_nonneg_left (h.row i hi) (hy i hi)
    grind
  have l2 := sm_le le
  have l3 := sm_le l1
  have z1 := sm_zero_each (f := fun i => y i - y i * sm n (S i)) (fun i hi => by have := l1 i hi; grind) (by rw [sm_sub]; grind)
  have z2 := sm_zero_each (f := fun j => sm n (fun i => y i * S i j) - y j) (fun i hi => by have := le i hi; grind) (by rw [sm_sub]; grind)
  have key : ∀ i, Out n S i → i < n → y i = 0 := by
    intro i this
    induction this with
    | @loss i hi q =>
      intro _
      have := z1 i hi
      have : y i * (1 - sm n (S i)) = 0 := by rw [← this]; grind
      grind
    | @step i j hi hj q _ ih =>
      intro _
      have a := z2 j hj
      have b := sm_zero_each (f := fun i => y i * S i j) (fun k hk => Rat.mul_nonneg (hy k hk) (h.nn k j hk hj)) (by have := ih hj; grind) i hi
      grind
  intro i hi
  apply Classical.byContradiction
  intro z
  exact z (key i (o i hi z) hi)
def ab (x : Rat) : Rat := if x < 0 then -x else x
theorem ab_nonneg (x : Rat) : 0 ≤ ab x := by unfold ab; split <;> grind
theorem ab_zero {x : Rat} (h : ab x = 0) : x = 0 := by unfold ab at h; split at h <;> grind
theorem ab_add (x y : Rat) : ab (x + y) ≤ ab x + ab y := by unfold ab; split <;> split <;> split <;> grind
theorem ab_mul (x : Rat) {y : Rat} (h : 0 ≤ y) : ab (x * y) = ab x * y := by
  unfold ab
  by_cases a : x < 0
  · rw [if_pos a]
    by_cases b : y = 0
    · subst b; simp
    · have := Rat.mul_lt_mul_of_pos_right a (show 0 < y by grind)
      rw [if_pos (by grind)]; grind
  · have := Rat.mul_nonneg (show 0 ≤ x by grind) h
    rw [if_neg a, if_neg (by grind)]
theorem ab_sm (n : Nat) (f : Nat → Rat) : ab (sm n f) ≤ sm n (fun i => ab (f i)) := by
  induction n with
  | zero => exact (by decide : ab 0 ≤ 0)
  | succ n ih => simp only [sm]; have := ab_add (sm n f) (f n); grind
/-- a steady flow, 0 off some -/
structure Flow (n : Nat) (S : Nat → Nat → Rat) (F : Nat → Prop) (a X : Nat → Rat) : Prop where
  eq : ∀ j, j < n → X j = a j + sm n (fun i => X i * S i j)
  off : ∀ j, j < n → ¬ F j → X j = 0
section
variable {n : Nat} {S : Nat → Nat → Rat} {F G : Nat → Prop} {a b X Y : Nat → Rat}
theorem Flow.hom (h : Sub n S) (o : ∀ i, i < n → F i → Out n S i) (f : ∀ j, j < n → X j = sm n (fun i => X i * S i j)) (z : ∀ j, j < n → ¬ F j → X j = 0) : ∀ j, j < n → X j = 0 := by
  have := sub_zero' h (fun i => ab (X i)) (fun i hi q => o i hi (Classical.byContradiction fun g => q (by rw [z i hi g]; rfl))) (fun i _ => ab_nonneg _) (fun j hj => by
    have e : ab (X j) = ab (sm n (fun i => X i * S i j)) := by rw [← f j hj]
    rw [e]
    have := ab_sm n (fun i => X i * S i j)
    rw [sm_congr (g := fun i => ab (X i) * S i j) fun i hi => ab_mul _ (h.nn i j hi hj)] at this
    exact this)
  exact fun j hj => ab_zero (this j hj)
theorem Flow.sub (f : Flow n S F a X) (g : Flow n S F b Y) : Flow n S F (fun i => a i - b i) fun i => X i - Y i := by
  refine ⟨fun j hj => ?_, fun j hj q => by rw [f.off j hj q, g.off j hj q]; grind⟩
  have : sm n (fun i => (X i - Y i) * S i j) = sm n (fun i => X i * S i j) - sm n (fun i => Y i * S i j) := by
    rw [← sm_sub]; exact sm_congr fun i _ => by grind
  rw [this]
  have := f.eq j hj
  have := g.eq j hj
  grind
theorem Flow.add (f : Flow n S F a X) (g : Flow n S F b Y) : Flow n S F (fun i => a i + b i) fun i => X i + Y i := by
  refine ⟨fun j hj => ?_, fun j hj q => by rw [f.off j hj q, g.off j hj q]; grind⟩
  have : sm n (fun i => (X i + Y i) * S i j) = sm n (fun i => X i * S i j) + sm n (fun i => Y i * S i j) := by
    rw [← sm_add]; exact sm_congr fun i _ => by grind
  rw [this]
  have := f.eq j hj
  have := g.eq j hj
  grind
theorem Flow.mono (f : Flow n S F a X) (k : ∀ i, i < n → F i → G i) : Flow n S G a X := ⟨f.eq, fun j hj q => f.off j hj fun z => q (k j hj z)⟩
theorem Flow.congr (f : Flow n S F a X) (k : ∀ i, i < n → a i = b i) : Flow n S F b X := ⟨fun j hj => by rw [← k j hj]; exact f.eq j hj, f.off⟩
theorem Flow.unique (h : Sub n S) (o : ∀ i, i < n → F i → Out n S i) (f : Flow n S F a X) (g : Flow n S F a Y) : ∀ j, j < n → X j = Y j := by
  intro j hj
  have d := f.sub g
  have := Flow.hom h o (fun j hj => by have := d.eq j hj; grind) d.off j hj
  grind
theorem Flow.nonneg (h : Sub n S) (o : ∀ i, i < n → F i → Out n S i) (f : Flow n S F a X) (ha : ∀ i, i < n → 0 ≤ a i) : ∀ j, j < n → 0 ≤ X j := by
  have key := sub_zero' h (fun i => if X i < 0 then - X i else 0) (fun i hi q => o i hi (Classical.byContradiction fun g => q (by
      show (if X i < 0 then - X i else 0) = 0
      rw [f.off i hi g]; rfl))) (fun i _ => by
      show 0 ≤ if X i < 0 then - X i else 0
      split <;> grind) (fun j hj => by
    show (if X j < 0 then - X j else 0) ≤ _
    have nn : 0 ≤ sm n (fun i => (if X i < 0 then - X i else 0) * S i j) := sm_nonneg fun i hi => Rat.mul_nonneg (by split <;> grind) (h.nn i j hi hj)
    have le : sm n (fun i => (-1) * (X i * S i j)) ≤ sm n (fun i => (if X i < 0 then - X i else 0) * S i j) := sm_le fun i hi => by
      split
      · grind
      · have := Rat.mul_nonneg (show 0 ≤ X i by grind) (h.nn i j hi hj)
        grind
    rw [sm_mul] at le
    have e := f.eq j hj
    have := ha j hj
    split <;> grind)
  intro j hj
  have : (if X j < 0 then - X j else 0) = 0 := key j hj
  split at this <;> grind
/-- what leaves together is what comes -/
theorem Flow.leaves (f : Flow n S F a X) : sm n (fun i => X i * (1 - sm n (S i))) = sm n a := by
  have e1 : sm n (fun j => sm n (fun i => X i * S i j)) = sm n (fun i => X i * sm n (S i)) := by
    rw [sm_swap]; exact sm_congr fun i hi => sm_mul n (X i) (S i)
  have e2 : sm n X = sm n a + sm n (fun j => sm n (fun i => X i * S i j)) := by
    rw [← sm_add]; exact sm_congr f.eq
  have e3 : sm n (fun i => X i * (1 - sm n (S i))) = sm n X - sm n (fun i => X i * sm n (S i)) := by
    rw [← sm_sub]; exact sm_congr fun i _ => by grind
  grind
end
/-! the system of the fed ones -/
/-- the values of some at the places of a list -/
def ext (m : Nat) (F : Nat → Nat) (x : Nat → Rat) : Nat → Rat := fun i => sm m (fun k => if F k = i then x k else 0)
theorem ext_sm {n m : Nat} {F : Nat → Nat} (hF : ∀ k, k < m → F k < n) (x g : Nat → Rat) : sm n (fun i => ext m F x i * g i) = sm m (fun k => x k * g (F k)) := by
  unfold ext
  rw [sm_congr (g := fun i => sm m (fun k => (if F k = i then x k else 0) * g i)) fun i _ => (sm_mulR _ _ _).symm, sm_swap]
  refine sm_congr fun k hk => ?_
  rw [sm_congr (g := fun i => if i = F k then x k * g i else 0) fun i _ => by
    by_cases a : F k = i
    · rw [if_pos a, if_pos a.symm]
    · rw [if_neg a, if_neg fun z => a z.symm]; grind]
  exact sm_single n (F k) (hF k hk) fun i => x k * g i
theorem ext_at {m : Nat} {F : Nat → Nat} (inj : ∀ k l, k < m → l < m → F k = F l → k = l) {x : Nat → Rat} {k : Nat} (hk : k < m) : ext m F x (F k) = x k := by
  unfold ext
  rw [sm_congr (g := fun l => if l = k then x l else 0) fun l hl => by
    by_cases a : F l = F k
    · have := inj l k hl hk a
      rw [if_pos a, if_pos this]
    · rw [if_neg a, if_neg fun z => a (by rw [z])]]
  exact sm_single m k hk x
theorem ext_off {m : Nat} {F : Nat → Nat} {x : Nat → Rat} {i : Nat} (h : ∀ k, k < m → F k ≠ i) : ext m F x i = 0 := by
  unfold ext
  rw [sm_congr (g := fun _ => 0) fun k hk => if_neg (h k hk), sm_zero]
/-- the rows that are solved -/
def fedA (m : Nat) (F : Nat → Nat) (S : Nat → Nat → Rat) (a : Nat → Rat) : Nat → Nat → Rat := fun k l => if l < m then (if F l = F k then 1 else 0) - S (F l) (F k) else a (F k)
section
variable {n m : Nat} {F : Nat → Nat} {S : Nat → Nat → Rat} {a x : Nat → Rat} {P : Nat → Prop}
theorem fed_sol (hF : ∀ k, k < m → F k < n) (inj' : ∀ k l, k < m → l < m → F k = F l → k = l) (hP : ∀ i, i < n → P i → ∃ k, k < m ∧ F k = i) (hP2 : ∀ k, k < m → P (F k))
    (cl : ∀ i j, i < n → j < n → P i → S i j ≠ 0 → P j) {c : Rat} (ca : ∀ i, i < n → ¬ P i → c * a i = 0) (h : sol m (fedA m F S a) c x) : Flow n S P (fun i => c * a i) (ext m F x) := by
  have off : ∀ j, j < n → ¬ P j → ext m F x j = 0 := fun j hj q => ext_off fun k hk e => q (e ▸ hP2 k hk)
  refine ⟨fun j hj => ?_, off⟩
  rw [ext_sm hF]
  by_cases pj : P j
  · obtain ⟨k, hk, rfl⟩ := hP j hj pj
    rw [ext_at inj' hk]
    have e := h k hk
    have e1 : sm m (fun l => fedA m F S a k l * x l) = sm m (fun l => (if l = k then x l else 0) - x l * S (F l) (F k)) := by
      refine sm_congr fun l hl => ?_
      unfold fedA
      rw [if_pos hl]
      by_cases q : l = k
      · subst q; rw [if_pos rfl, if_pos rfl]; grind
      · rw [if_neg q, if_neg fun z => q (inj' l k hl hk z)]; grind
    rw [e1, sm_sub, sm_single m k hk x] at e
    unfold fedA at e
    rw [if_neg (by omega)] at e
    grind
  · rw [off j hj pj, ca j hj pj, sm_congr (g := fun _ => 0) fun k hk => ?_, sm_zero]
    · grind
    · have : S (F k) j = 0 := Classical.byContradiction fun z => pj (cl (F k) j (hF k hk) hj (hP2 k hk) z)
      rw [this]; grind
theorem fed_inj (h : Sub n S) (o : ∀ i, i < n → P i → Out n S i) (hF : ∀ k, k < m → F k < n) (inj' : ∀ k l, k < m → l < m → F k = F l → k = l) (hP : ∀ i, i < n → P i → ∃ k, k < m ∧ F k = i) (hP2 : ∀ k, k < m → P (F k))
    (cl : ∀ i j, i < n → j < n → P i → S i j ≠ 0 → P j) : inj m (fedA m F S a) := by
  intro x hx j hj
  have f := fed_sol (c := 0) hF inj' hP hP2 cl (fun _ _ _ => by grind) hx
  have := Flow.hom h o (fun j hj => by have := f.eq j hj; grind) f.off (F j) (hF j hj)
  rw [ext_at inj' hj] at this
  exact this
end
end Mx
namespace Mx
structure Arr (n : Nat) (o : List Nat) : Prop where
  p : o.Perm (List.range n)
section
variable {n : Nat} {o : List Nat}
theorem Arr.len (h : Arr n o) : o.length = n := by simpa using h.p.length_eq
end
end Mx
namespace Mx
/-- all but one -/
def sk (u i : Nat) : Nat := if i < u then i else i + 1
theorem sk_ne (u i : Nat) : sk u i ≠ u := by unfold sk; split <;> omega
section
variable {n u : Nat} {S : Nat → Nat → Rat}
theorem mul_ne {a b : Rat} (ha : a ≠ 0) (hb : b ≠ 0) : a * b ≠ 0 := fun z => by
  rcases Rat.mul_eq_zero.mp z with q | q
  · exact ha q
  · exact hb q
end
/-! two of them -/
end Mx
namespace Mx
section
variable {n : Nat} {S T : Nat → Nat → Rat} {F : Nat → Prop} {a X Y : Nat → Rat}
/-- where less is passed on less flows -/
theorem Flow.less (hT : Sub n T) (oT : ∀ i, i < n → F i → Out n T i) (le : ∀ i j, i < n → j < n → T i j ≤ S i j) (nn : ∀ i, i < n → 0 ≤ X i) (f : Flow n S F a X) (g : Flow n T F a Y) : ∀ j, j < n → Y j ≤ X j := by
  have d : Flow n T F (fun j => sm n (fun i => X i * (S i j - T i j))) (fun i => X i - Y i) := by
    refine ⟨fun j hj => ?_, fun j hj q => by rw [f.off j hj q, g.off j hj q]; grind⟩
    have e : sm n (fun i => X i * (S i j - T i j)) + sm n (fun i => (X i - Y i) * T i j) = sm n (fun i => X i * S i j) - sm n (fun i => Y i * T i j) := by
      rw [← sm_add, ← sm_sub]
      exact sm_congr fun i _ => by grind
    rw [e]
    have := f.eq j hj
    have := g.eq j hj
    grind
  intro j hj
  have := d.nonneg hT oT (fun i hi => sm_nonneg fun k hk => Rat.mul_nonneg (nn k hk) (by have := le k i hk hi; grind)) j hj
  grind
end
end Mx
namespace Mx
/-! determinants, by the first row -/
def sg : Nat → Rat
  | 0 => 1
  | n + 1 => - sg n
def det : Nat → (Nat → Nat → Rat) → Rat
  | 0, _ => 1
  | n + 1, A => sm (n + 1) fun j => sg j * A 0 j * det n fun i k => A (i + 1) (sk j k)
theorem det_congr : ∀ {n : Nat} {A B : Nat → Nat → Rat}, (∀ i j, i < n → j < n → A i j = B i j) → det n A = det n B
  | 0, _, _, _ => rfl
  | n + 1, A, B, h => by
    simp only [det]
    refine sm_congr fun j hj => ?_
    rw [h 0 j (by omega) hj, det_congr (n := n) fun i k hi hk => h (i + 1) (sk j k) (by omega) (by unfold sk; split <;> omega)]
/-- a column in the place of another one -/
def setc (A : Nat → Nat → Rat) (k : Nat) (v : Nat → Rat) : Nat → Nat → Rat := fun i j => if j = k then v i else A i j
theorem setc_minor {A : Nat → Nat → Rat} {j k : Nat} {v : Nat → Rat} (h : j ≠ k) : (fun i l => setc A k v (i + 1) (sk j l)) = setc (fun i l => A (i + 1) (sk j l)) (if k < j then k else k - 1) fun i => v (i + 1) := by
  funext i l
  unfold setc
  by_cases g : k < j
  · rw [if_pos g]
    by_cases q : l = k
    · subst q
      rw [if_pos (by unfold sk; rw [if_pos g]), if_pos rfl]
    · rw [if_neg (by unfold sk; split <;> omega), if_neg q]
  · rw [if_neg g]
    by_cases q : l = k - 1
    · subst q
      rw [if_pos (by unfold sk; rw [if_neg (by omega)]; omega), if_pos rfl]
    · rw [if_neg (by unfold sk; split <;> omega), if_neg q]
theorem setc_minor_same {A : Nat → Nat → Rat} {k : Nat} {v : Nat → Rat} : (fun i l => setc A k v (i + 1) (sk k l)) = fun i l => A (i + 1) (sk k l) := by
  funext i l
  unfold setc
  rw [if_neg (sk_ne k l)]
theorem det_lin : ∀ {n k : Nat} {A : Nat → Nat → Rat} {v w : Nat → Rat} {c : Rat}, k < n → det n (setc A k fun i => c * v i + w i) = c * det n (setc A k v) + det n (setc A k w)
  | 0, k, _, _, _, _, h => by omega
  | n + 1, k, A, v, w, c, h => by
    simp only [det]
    rw [← sm_mul, ← sm_add]
    refine sm_congr fun j hj => ?_
    by_cases g : j = k
    · subst g
      rw [setc_minor_same, setc_minor_same, setc_minor_same]
      unfold setc
      rw [if_pos rfl, if_pos rfl, if_pos rfl]
      grind
    · rw [setc_minor g, setc_minor g, setc_minor g, det_lin (n := n) (by split <;> omega)]
      have e : ∀ u : Nat → Rat, setc A k u 0 j = A 0 j := fun u => by unfold setc; rw [if_neg g]
      rw [e, e, e]
      grind
theorem sm_two {n k l : Nat} (hk : k < n) (hl : l < n) (hkl : k ≠ l) {f : Nat → Rat} (h : ∀ j, j < n → j ≠ k → j ≠ l → f j = 0) : sm n f = f k + f l := by
  rw [← sm_single n k hk f, ← sm_single n l hl f, ← sm_add]
  refine sm_congr fun j hj => ?_
  by_cases a : j = k
  · rw [if_pos a, if_neg (by omega)]; grind
  · rw [if_neg a]
    by_cases b : j = l
    · rw [if_pos b]; grind
    · rw [if_neg b, h j hj a b]; grind
theorem det_adj : ∀ {n k : Nat} {A : Nat → Nat → Rat}, k + 1 < n → (∀ i, i < n → A i k = A i (k + 1)) → det n A = 0
  | 0, k, _, h, _ => by omega
  | n + 1, k, A, h, e => by
    simp only [det]
    rw [sm_two (k := k) (l := k + 1) (by omega) (by omega) (by omega)]
    · have m : det n (fun i l => A (i + 1) (sk k l)) = det n (fun i l => A (i + 1) (sk (k + 1) l)) := det_congr fun i l hi hl => by
        by_cases q : l = k
        · subst q
          have e1 : sk l l = l + 1 := by unfold sk; rw [if_neg (by omega)]
          have e2 : sk (l + 1) l = l := by unfold sk; rw [if_pos (by omega)]
          rw [e1, e2, e (i + 1) (by omega)]
        · have : sk k l = sk (k + 1) l := by unfold sk; split <;> split <;> omega
          rw [this]
      rw [m, e 0 (by omega)]
      simp only [sg]
      grind
    · intro j hj a b
      have z : det n (fun i l => A (i + 1) (sk j l)) = 0 := by
        by_cases g : j < k
        · refine det_adj (k := k - 1) (by omega) fun i hi => ?_
          have e1 : sk j (k - 1) = k := by unfold sk; rw [if_neg (by omega)]; omega
          have e2 : sk j (k - 1 + 1) = k + 1 := by unfold sk; rw [if_neg (by omega)]; omega
          rw [e1, e2]; exact e (i + 1) (by omega)
        · refine det_adj (k := k) (by omega) fun i hi => ?_
          have e1 : sk j k = k := by unfold sk; rw [if_pos (by omega)]
          have e2 : sk j (k + 1) = k + 1 := by unfold sk; rw [if_pos (by omega)]
          rw [e1, e2]; exact e (i + 1) (by omega)
      rw [z]; grind
theorem setc_comm {A : Nat → Nat → Rat} {k l : Nat} {v w : Nat → Rat} (h : k ≠ l) : setc (setc A k v) l w = setc (setc A l w) k v := by
  funext i j
  unfold setc
  by_cases a : j = k
  · rw [if_pos a, if_neg (by omega), if_pos a]
  · rw [if_neg a, if_neg a]
theorem det_add {n k : Nat} {A : Nat → Nat → Rat} {v w : Nat → Rat} (hk : k < n) : det n (setc A k fun i => v i + w i) = det n (setc A k v) + det n (setc A k w) := by
  have := det_lin (n := n) (k := k) (A := A) (v := v) (w := w) (c := 1) hk
  have e : (fun i => 1 * v i + w i) = fun i => v i + w i := by funext i; grind
  rw [e] at this
  rw [this]; grind
theorem det_swap {n k : Nat} {A : Nat → Nat → Rat} (hk : k + 1 < n) : det n (setc (setc A k fun i => A i (k + 1)) (k + 1) fun i => A i k) = - det n A := by
  have key : ∀ x : Nat → Rat, det n (setc (setc A k x) (k + 1) x) = 0 := fun x => det_adj hk fun i hi => by
    unfold setc
    rw [if_neg (by omega), if_pos rfl, if_pos rfl]
  have e0 := key fun i => A i k + A i (k + 1)
  rw [det_add hk, setc_comm (by omega), det_add (by omega), setc_comm (by omega) (v := fun i => A i k + A i (k + 1)), det_add (by omega)] at e0
  rw [setc_comm (k := k + 1) (l := k) (by omega), setc_comm (k := k + 1) (l := k) (by omega), setc_comm (k := k + 1) (l := k) (by omega), setc_comm (k := k + 1) (l := k) (by omega), key, key] at e0
  have e1 : det n (setc (setc A k fun i => A i k) (k + 1) fun i => A i (k + 1)) = det n A := det_congr fun i j _ _ => by
    unfold setc
    by_cases a : j = k + 1
    · subst a; rw [if_pos rfl]
    · rw [if_neg a]
      by_cases b : j = k
      · subst b; rw [if_pos rfl]
      · rw [if_neg b]
  rw [e1] at e0
  grind
theorem det_eqc {n : Nat} : ∀ (d : Nat) {i : Nat} {A : Nat → Nat → Rat}, i + d + 1 < n → (∀ r, r < n → A r i = A r (i + d + 1)) → det n A = 0
  | 0, i, A, h, e => det_adj h e
  | d + 1, i, A, h, e => by
    have s := det_swap (n := n) (k := i + d + 1) (A := A) (by omega)
    have z : det n (setc (setc A (i + d + 1) fun r => A r (i + d + 1 + 1)) (i + d + 1 + 1) fun r => A r (i + d + 1)) = 0 := det_eqc d (i := i) (by omega) fun r hr => by
      unfold setc
      rw [if_neg (by omega), if_neg (by omega), if_neg (by omega), if_pos rfl]
      exact e r hr
    rw [z] at s
    grind
theorem det_eq {n i j : Nat} {A : Nat → Nat → Rat} (hi : i < n) (hj : j < n) (hij : i ≠ j) (e : ∀ r, r < n → A r i = A r j) : det n A = 0 := by
  rcases Nat.lt_or_gt_of_ne hij with g | g
  · exact det_eqc (j - i - 1) (i := i) (by omega) fun r hr => by rw [show i + (j - i - 1) + 1 = j by omega]; exact e r hr
  · exact det_eqc (i - j - 1) (i := j) (by omega) fun r hr => by rw [show j + (i - j - 1) + 1 = i by omega]; exact (e r hr).symm
theorem det_zero {n k : Nat} {A : Nat → Nat → Rat} (hk : k < n) : det n (setc A k fun _ => 0) = 0 := by
  have := det_add (n := n) (k := k) (A := A) (v := fun _ => 0) (w := fun _ => 0) hk
  have e : (fun _ : Nat => (0 : Rat) + 0) = fun _ => 0 := by funext i; grind
  rw [e] at this
  grind
theorem det_sum {n k : Nat} {A : Nat → Nat → Rat} (hk : k < n) (x : Nat → Rat) (c : Nat → Nat → Rat) : ∀ m, det n (setc A k fun i => sm m fun j => x j * c j i) = sm m fun j => x j * det n (setc A k (c j))
  | 0 => det_zero hk
  | m + 1 => by
    have e : (fun i => sm (m + 1) fun j => x j * c j i) = fun i => x m * c m i + sm m fun j => x j * c j i := by
      funext i; simp only [sm]; grind
    rw [e, det_lin hk, det_sum hk x c m]
    simp only [sm]; grind
theorem setc_self {n k : Nat} {A : Nat → Nat → Rat} : det n (setc A k fun i => A i k) = det n A := det_congr fun i j _ _ => by
  unfold setc
  by_cases a : j = k
  · subst a; rw [if_pos rfl]
  · rw [if_neg a]
theorem setc_other {n k j : Nat} {A : Nat → Nat → Rat} (hk : k < n) (hj : j < n) (h : j ≠ k) : det n (setc A k fun i => A i j) = 0 := det_eq hj hk h fun r hr => by
  unfold setc
  rw [if_neg h, if_pos rfl]
/-- Cramer's rule -/
theorem det_cramer {n k : Nat} {A : Nat → Nat → Rat} {x b : Nat → Rat} (hk : k < n) (h : ∀ i, i < n → sm n (fun j => A i j * x j) = b i) : det n (setc A k b) = x k * det n A := by
  have e : det n (setc A k b) = det n (setc A k fun i => sm n fun j => x j * A i j) := det_congr fun i j hi _ => by
    unfold setc
    split
    · rw [← h i hi]; exact sm_congr fun l _ => by grind
    · rfl
  rw [e, det_sum hk x (fun j i => A i j) n]
  rw [sm_congr (g := fun j => if j = k then x j * det n A else 0) fun j hj => by
    by_cases g : j = k
    · subst g; rw [if_pos rfl, setc_self]
    · rw [if_neg g, setc_other hk hj g]; grind]
  exact sm_single n k hk fun j => x j * det n A
/-- only the last one of the last column -/
theorem det_last : ∀ {n : Nat} {A : Nat → Nat → Rat}, (∀ i, i < n → A i n = 0) → det (n + 1) A = A n n * det n A
  | 0, A, _ => by simp only [det, sm, sg]; grind
  | n + 1, A, h => by
    have e1 : det (n + 1 + 1) A = sm (n + 1 + 1) fun j => sg j * A 0 j * det (n + 1) fun i k => A (i + 1) (sk j k) := rfl
    have e2 : det (n + 1) A = sm (n + 1) fun j => sg j * A 0 j * det n fun i k => A (i + 1) (sk j k) := rfl
    rw [e1, e2, ← sm_mul]
    have e3 : (sm (n + 1 + 1) fun j => sg j * A 0 j * det (n + 1) fun i k => A (i + 1) (sk j k)) = (sm (n + 1) fun j => sg j * A 0 j * det (n + 1) fun i k => A (i + 1) (sk j k)) + sg (n + 1) * A 0 (n + 1) * det (n + 1) fun i k => A (i + 1) (sk (n + 1) k) := rfl
    rw [e3, h 0 (by omega), sm_congr (g := fun j => A (n + 1) (n + 1) * (sg j * A 0 j * det n fun i k => A (i + 1) (sk j k))) fun j hj => ?_]
    · grind
    · have s : sk j n = n + 1 := by unfold sk; rw [if_neg (by omega)]
      rw [det_last (n := n) (A := fun i k => A (i + 1) (sk j k)) fun i hi => by rw [s]; exact h (i + 1) (by omega)]
      simp only [s]
      grind
/-- a row and a column more -/
theorem det_border {p : Nat} {A : Nat → Nat → Rat} {x : Nat → Rat} (h : ∀ i, i < p → sm p (fun k => A i k * x k) = A i p) : det (p + 1) A = (A p p - sm p fun k => A p k * x k) * det p A := by
  have e1 : det (p + 1) (setc A p fun i => A i p + sm p fun k => - x k * A i k) = det (p + 1) A := by
    rw [det_add (by omega), setc_self, det_sum (by omega) (fun k => - x k) (fun k i => A i k) p, sm_congr (g := fun _ => 0) fun k hk => by rw [setc_other (by omega) (by omega) (by omega)]; grind, sm_zero]
    grind
  have neg : ∀ i, (sm p fun k => - x k * A i k) = - sm p fun k => A i k * x k := fun i => by
    have : (sm p fun k => - x k * A i k) = sm p fun k => (-1) * (A i k * x k) := sm_congr fun k _ => by grind
    rw [this, sm_mul]; grind
  rw [← e1, det_last (n := p) fun i hi => by
    unfold setc
    rw [if_pos rfl]
    show A i p + (sm p fun k => - x k * A i k) = 0
    rw [neg, h i hi]; grind]
  congr 1
  · unfold setc
    rw [if_pos rfl]
    show A p p + (sm p fun k => - x k * A p k) = _
    rw [neg]; grind
  · refine det_congr fun i j hi hj => ?_
    unfold setc
    rw [if_neg (by omega)]
/-! sizes -/
def fc : Nat → Nat
  | 0 => 1
  | n + 1 => (n + 1) * fc n
theorem sm_int {C : Nat} {f : Nat → Rat} : ∀ {m : Nat}, (∀ j, j < m → ∃ z : Int, f j = (z : Rat) ∧ z.natAbs ≤ C) → ∃ z : Int, sm m f = (z : Rat) ∧ z.natAbs ≤ m * C
  | 0, _ => ⟨0, rfl, by simp⟩
  | m + 1, h => by
    obtain ⟨z, e, b⟩ := sm_int (m := m) fun j hj => h j (by omega)
    obtain ⟨y, e2, b2⟩ := h m (by omega)
    refine ⟨z + y, by simp only [sm]; rw [e, e2, Rat.intCast_add], ?_⟩
    have := Int.natAbs_add_le z y
    rw [Nat.add_mul, Nat.one_mul]
    omega
theorem sg_int : ∀ n, ∃ z : Int, sg n = (z : Rat) ∧ z.natAbs = 1
  | 0 => ⟨1, rfl, rfl⟩
  | n + 1 => by
    obtain ⟨z, e, b⟩ := sg_int n
    exact ⟨-z, by simp only [sg]; rw [e, Rat.intCast_neg], by rw [Int.natAbs_neg]; exact b⟩
theorem det_int {B : Nat} : ∀ {n : Nat} {A : Nat → Nat → Rat}, (∀ i j, i < n → j < n → ∃ z : Int, A i j = (z : Rat) ∧ z.natAbs ≤ B) → ∃ z : Int, det n A = (z : Rat) ∧ z.natAbs ≤ fc n * B ^ n
  | 0, _, _ => ⟨1, rfl, by simp [fc]⟩
  | n + 1, A, h => by
    obtain ⟨z, e, b⟩ := sm_int (m := n + 1) (C := B * (fc n * B ^ n)) (f := fun j => sg j * A 0 j * det n fun i k => A (i + 1) (sk j k)) fun j hj => by
      obtain ⟨s, e1, b1⟩ := sg_int j
      obtain ⟨y, e2, b2⟩ := h 0 j (by omega) hj
      obtain ⟨d, e3, b3⟩ := det_int (n := n) (A := fun i k => A (i + 1) (sk j k)) fun i k hi hk => h (i + 1) (sk j k) (by omega) (by unfold sk; split <;> omega)
      refine ⟨s * y * d, by rw [e1, e2, e3, Rat.intCast_mul, Rat.intCast_mul], ?_⟩
      rw [Int.natAbs_mul, Int.natAbs_mul, b1, Nat.one_mul]
      exact Nat.mul_le_mul b2 b3
    refine ⟨z, e, Nat.le_trans b (Nat.le_of_eq ?_)⟩
    simp only [fc, Nat.pow_succ]
    rw [Nat.mul_assoc (n + 1), Nat.mul_comm B, Nat.mul_assoc (fc n)]
theorem det_bits {n b : Nat} {A : Nat → Nat → Rat} (hn : n ≤ 6) (h : ∀ i j, i < n → j < n → ∃ z : Int, A i j = (z : Rat) ∧ z.natAbs < 2 ^ b) : ∃ z : Int, det n A = (z : Rat) ∧ z.natAbs < 2 ^ (n * b + 10) := by
  obtain ⟨z, e, q⟩ := det_int (B := 2 ^ b) (n := n) (A := A) fun i j hi hj => by
    obtain ⟨z, e, q⟩ := h i j hi hj
    exact ⟨z, e, Nat.le_of_lt q⟩
  refine ⟨z, e, ?_⟩
  have f : fc n < 2 ^ 10 := by
    have : ∀ n, n ≤ 6 → fc n < 2 ^ 10 := by decide
    exact this n hn
  rw [← Nat.pow_mul, Nat.mul_comm b n] at q
  have p := Nat.pow_pos (n := n * b) (show 0 < 2 by omega)
  rw [Nat.pow_add, Nat.mul_comm (2 ^ (n * b))]
  exact Nat.lt_of_le_of_lt q (Nat.mul_lt_mul_of_pos_right f p)
end Mx
namespace Mx
/-! elimination by determinants -/
/-- what is reached by some steps -/
inductive Reach (m : Nat) (A : Nat → Nat → Rat) : Nat → (Nat → Nat → Rat) → Prop
  | zero : Reach m A 0 A
  | step {p q : Nat} {B : Nat → Nat → Rat} : Reach m A p B → p < m → q < m → p ≤ q → B q p ≠ 0 → Reach m A (p + 1) (elm B p q)
/-- rows in another order; what the rows are told by -/
structure Elim (m p : Nat) (A B M : Nat → Nat → Rat) (r : Nat → Nat) : Prop where
  lt : ∀ i, i < m → r i < m
  e1 : ∀ i j, i < p → j ≤ m → sm p (fun k => A (r i) k * B k j) = A (r i) j
  e2 : ∀ i j, p ≤ i → i < m → j ≤ m → B i j = A (r i) j - sm p (fun k => A (r i) k * B k j)
  d : det p (fun i => M (r i)) ≠ 0
def swr (r : Nat → Nat) (p q : Nat) : Nat → Nat := fun i => if i = p then r q else if i = q then r p else r i
section
variable {m p q : Nat} {A B M : Nat → Nat → Rat} {r : Nat → Nat} {w D : Nat → Rat}
theorem Elim.zero (m : Nat) (A M : Nat → Nat → Rat) : Elim m 0 A A M fun i => i := ⟨fun _ h => h, fun i j h => by omega, fun i j _ _ _ => by simp only [sm]; grind, by simp only [det]; decide⟩
/-- M i j = A i j * w j * D i -/
theorem scaled1 (hM : ∀ i j, i < m → j ≤ m → M i j = A i j * w j * D i) (hw : ∀ j, j ≤ m → w j ≠ 0) (hp : p ≤ m) (E : Elim m p A B M r) {j : Nat} (hj : j ≤ m) (i : Nat) (hi : i < m) : sm p (fun k => M (r i) k * (B k j * w j / w k)) = (sm p fun k => A (r i) k * B k j) * (w j * D (r i)) := by
  rw [← sm_mulR]
  refine sm_congr fun k hk => ?_
  rw [hM _ k (E.lt i hi) (by omega)]
  have := hw k (by omega)
  generalize w k = wk at *
  generalize w j = wj at *
  generalize B k j = b
  generalize A (r i) k = a
  generalize D (r i) = d
  clear E hM hw
  grind
theorem Elim.step (hM : ∀ i j, i < m → j ≤ m → M i j = A i j * w j * D i) (hw : ∀ j, j ≤ m → w j ≠ 0) (hD : ∀ i, i < m → D i ≠ 0) (E : Elim m p A B M r) (hp : p < m) (hq : q < m) (hpq : p ≤ q) (h0 : B q p ≠ 0) : Elim m (p + 1) A (elm B p q) M (swr r p q) := by
  have rp : swr r p q p = r q := by unfold swr; rw [if_pos rfl]
  have rlow : ∀ i, i < p → swr r p q i = r i := fun i hi => by unfold swr; rw [if_neg (by omega), if_neg (by omega)]
  have up : ∀ j, elm B p q p j = B q j / B q p := fun j => by unfold elm; rw [if_pos rfl]
  have lo : ∀ k j, k < p → elm B p q k j = B k j - B k p * (B q j / B q p) := fun k j hk => by
    unfold elm
    rw [if_neg (by omega)]
    have e : ∀ l, swp B p q k l = B k l := fun l => by unfold swp; rw [if_neg (by omega), if_neg (by omega)]
    rw [e, e]
  -- a row of the new sums
  have row : ∀ i j, (sm (p + 1) fun k => A i k * elm B p q k j) = (sm p fun k => A i k * B k j) - (sm p fun k => A i k * B k p) * (B q j / B q p) + A i p * (B q j / B q p) := fun i j => by
    have e : (sm (p + 1) fun k => A i k * elm B p q k j) = (sm p fun k => A i k * elm B p q k j) + A i p * elm B p q p j := rfl
    rw [e, up, ← sm_mulR, ← sm_sub]
    congr 1
    refine sm_congr fun k hk => ?_
    rw [lo k j hk]; grind
  have qrow : ∀ j, j ≤ m → (sm p fun k => A (r q) k * B k j) = A (r q) j - B q j := fun j hj => by have := E.e2 q j hpq hq hj; grind
  refine ⟨fun i hi => ?_, fun i j hi hj => ?_, fun i j hi him hj => ?_, ?_⟩
  · unfold swr
    split
    · exact E.lt q hq
    · split
      · exact E.lt p hp
      · exact E.lt i hi
  · rw [row]
    rcases Nat.lt_succ_iff_lt_or_eq.mp hi with g | rfl
    · rw [rlow i g, E.e1 i j g hj, E.e1 i p g (by omega)]; grind
    · rw [rp, qrow j hj, qrow i (by omega)]
      have : B q i * (B q j / B q i) = B q j := by rw [Rat.mul_comm]; exact Rat.div_mul_cancel h0
      grind
  · rw [row]
    have hne : i ≠ p := by omega
    have ee : elm B p q i j = swp B p q i j - swp B p q i p * (B q j / B q p) := by unfold elm; rw [if_neg hne]
    rw [ee]
    by_cases g : i = q
    · have s : ∀ l, swp B p q i l = B p l := fun l => by unfold swp; rw [if_neg hne, if_pos g]
      have t : swr r p q i = r p := by unfold swr; rw [if_neg hne, if_pos g]
      rw [s, s, t, E.e2 p j (Nat.le_refl _) hp hj, E.e2 p p (Nat.le_refl _) hp (by omega)]; grind
    · have s : ∀ l, swp B p q i l = B i l := fun l => by unfold swp; rw [if_neg hne, if_neg g]
      have t : swr r p q i = r i := by unfold swr; rw [if_neg hne, if_neg g]
      rw [s, s, t, E.e2 i j (by omega) him hj, E.e2 i p (by omega) him (by omega)]; grind
  · have hlt : ∀ i, i < p → r i < m := fun i hi => E.lt i (by omega)
    have b : det (p + 1) (fun i => M (swr r p q i)) = (M (swr r p q p) p - sm p fun k => M (swr r p q p) k * (B k p * w p / w k)) * det p fun i => M (swr r p q i) := det_border fun i hi => by
      rw [rlow i hi]
      rw [scaled1 hM hw (by omega) E (by omega) i (by omega), E.e1 i p hi (by omega), hM _ p (hlt i hi) (by omega)]; grind
    rw [b, rp, det_congr (B := fun i => M (r i)) fun i j hi _ => by rw [rlow i hi]]
    have e : (M (r q) p - sm p fun k => M (r q) k * (B k p * w p / w k)) = B q p * (w p * D (r q)) := by
      rw [scaled1 hM hw (by omega) E (by omega) q hq, hM _ p (E.lt q hq) (by omega), qrow p (by omega)]; grind
    rw [e]
    exact mul_ne (mul_ne h0 (mul_ne (hw p (by omega)) (hD _ (E.lt q hq)))) E.d
theorem reach_elim (hM : ∀ i j, i < m → j ≤ m → M i j = A i j * w j * D i) (hw : ∀ j, j ≤ m → w j ≠ 0) (hD : ∀ i, i < m → D i ≠ 0) (h : Reach m A p B) : p ≤ m ∧ ∃ r, Elim m p A B M r := by
  induction h with
  | zero => exact ⟨Nat.zero_le _, _, Elim.zero m A M⟩
  | step _ hp hq hpq h0 ih =>
    obtain ⟨_, r, E⟩ := ih
    exact ⟨hp, _, E.step hM hw hD hp hq hpq h0⟩
theorem Elim.top (hM : ∀ i j, i < m → j ≤ m → M i j = A i j * w j * D i) (hw : ∀ j, j ≤ m → w j ≠ 0) (hp : p ≤ m) (E : Elim m p A B M r) {k j : Nat} (hk : k < p) (hj : j ≤ m) : det p (setc (fun i => M (r i)) k fun i => M (r i) j) = B k j * w j / w k * det p fun i => M (r i) :=
  det_cramer (x := fun k => B k j * w j / w k) hk fun i hi => by
    rw [scaled1 hM hw hp E hj i (by omega), E.e1 i j hi hj, hM _ j (E.lt i (by omega)) hj]; grind
theorem Elim.low (hM : ∀ i j, i < m → j ≤ m → M i j = A i j * w j * D i) (hw : ∀ j, j ≤ m → w j ≠ 0) (E : Elim m p A B M r) {i j : Nat} (hi : p ≤ i) (him : i < m) (hj : j ≤ m) : det (p + 1) (fun a b => M (r (if a = p then i else a)) (if b = p then j else b)) = B i j * (w j * D (r i)) * det p fun i => M (r i) := by
  rw [det_border (x := fun k => B k j * w j / w k) fun a ha => ?_]
  · rw [if_pos rfl, if_pos rfl, det_congr (B := fun i => M (r i)) fun a b ha hb => by rw [if_neg (by omega), if_neg (by omega)]]
    congr 1
    rw [sm_congr (g := fun k => M (r i) k * (B k j * w j / w k)) fun k hk => by rw [if_neg (by omega)]]
    rw [scaled1 hM hw (by omega) E hj i him, hM _ j (E.lt i him) hj, E.e2 i j hi him hj]; grind
  · rw [if_pos rfl, if_neg (by omega), sm_congr (g := fun k => M (r a) k * (B k j * w j / w k)) fun k hk => by rw [if_neg (by omega)]]
    rw [scaled1 hM hw (by omega) E hj a (by omega), E.e1 a j ha hj, hM _ j (E.lt a (by omega)) hj]; grind
end
/-- each entry is a fraction of few bits -/
theorem reach_bits {m b c : Nat} {A B : Nat → Nat → Rat} {w : Nat → Int} {p : Nat} (hm : m ≤ 5) (hw : ∀ j, j ≤ m → w j ≠ 0 ∧ (w j).natAbs < 2 ^ c) (hb : Bits m w b A) (h : Reach m A p B) {i j : Nat} (hi : i < m) (hj : j ≤ m) :
    ∃ n d : Int, d ≠ 0 ∧ n.natAbs < 2 ^ (m * b + 10 + c) ∧ d.natAbs < 2 ^ (m * b + 10 + c) ∧ B i j = (n : Rat) / (d : Rat) := by
  obtain ⟨N, D, hN⟩ := hb.ex
  have hw' : ∀ j, j ≤ m → ((w j : Int) : Rat) ≠ 0 := fun j hj => cast_ne (hw j hj).1
  have hD' : ∀ i, i < m → ((D i : Int) : Rat) ≠ 0 := fun i hi => cast_ne (hN i hi).1
  have hM : ∀ i j, i < m → j ≤ m → ((N i j : Int) : Rat) = A i j * (w j : Rat) * (D i : Rat) := fun i j hi hj => by
    rw [((hN i hi).2.2 j hj).2]
    exact (Rat.div_mul_cancel (hD' i hi)).symm
  obtain ⟨hp, r, E⟩ := reach_elim (M := fun i j => ((N i j : Int) : Rat)) (w := fun j => ((w j : Int) : Rat)) (D := fun i => ((D i : Int) : Rat)) hM hw' hD' h
  obtain ⟨z0, ez0, bz0⟩ := det_bits (n := p) (b := b) (A := fun i j => ((N (r i) j : Int) : Rat)) (by omega) fun i j hi hj => ⟨_, rfl, ((hN _ (E.lt i (by omega))).2.2 j (by omega)).1⟩
  have d0 : (z0 : Rat) ≠ 0 := by rw [← ez0]; exact E.d
  have z0n : z0 ≠ 0 := fun z => d0 (by rw [z]; rfl)
  have mono : p * b ≤ m * b := Nat.mul_le_mul_right _ hp
  by_cases g : i < p
  · have t := E.top hM hw' hp g hj
    obtain ⟨z1, ez1, bz1⟩ := det_bits (n := p) (b := b) (A := setc (fun i j => ((N (r i) j : Int) : Rat)) i fun a => ((N (r a) j : Int) : Rat)) (by omega) fun a l ha hl => by
      unfold setc
      split
      · exact ⟨_, rfl, ((hN _ (E.lt a (by omega))).2.2 j hj).1⟩
      · exact ⟨_, rfl, ((hN _ (E.lt a (by omega))).2.2 l (by omega)).1⟩
    have t2 : (z1 : Rat) = B i j * (w j : Rat) / (w i : Rat) * (z0 : Rat) := by rw [← ez1, ← ez0]; exact t
    have wi := hw i (by omega)
    have wj := hw j hj
    refine ⟨z1 * w i, z0 * w j, Int.mul_ne_zero z0n wj.1, ?_, ?_, ?_⟩
    · exact Nat.lt_of_lt_of_le (natAbs_mul_lt bz1 wi.2) (Nat.pow_le_pow_right (by omega) (by omega))
    · exact Nat.lt_of_lt_of_le (natAbs_mul_lt bz0 wj.2) (Nat.pow_le_pow_right (by omega) (by omega))
    · rw [Rat.intCast_mul, Rat.intCast_mul, t2]
      have a1 := hw' i (by omega)
      have a2 := hw' j hj
      generalize (w i : Rat) = x at *
      generalize (w j : Rat) = y at *
      generalize (z0 : Rat) = u at *
      generalize B i j = v
      clear t t2 ez0 ez1 hM E hw' hD'
      grind
  · have t := E.low hM hw' (show p ≤ i by omega) hi hj
    have lt6 : p + 1 ≤ 6 := by omega
    obtain ⟨z1, ez1, bz1⟩ := det_bits (n := p + 1) (b := b) (A := fun a l => ((N (r (if a = p then i else a)) (if l = p then j else l) : Int) : Rat)) lt6 fun a l ha hl => by
      refine ⟨_, rfl, ((hN _ (E.lt _ ?_)).2.2 _ ?_).1⟩
      · split <;> omega
      · split <;> omega
    have t2 : (z1 : Rat) = B i j * ((w j : Rat) * (D (r i) : Rat)) * (z0 : Rat) := by rw [← ez1, ← ez0]; exact t
    have wj := hw j hj
    have di := hN _ (E.lt i hi)
    have mono2 : (p + 1) * b ≤ m * b := Nat.mul_le_mul_right _ (by omega)
    have e2 : (p + 1) * b = p * b + b := by rw [Nat.add_mul, Nat.one_mul]
    refine ⟨z1, w j * D (r i) * z0, Int.mul_ne_zero (Int.mul_ne_zero wj.1 di.1) z0n, ?_, ?_, ?_⟩
    · exact Nat.lt_of_lt_of_le bz1 (Nat.pow_le_pow_right (by omega) (by omega))
    · exact Nat.lt_of_lt_of_le (natAbs_mul_lt (natAbs_mul_lt wj.2 di.2.1) bz0) (Nat.pow_le_pow_right (by omega) (by omega))
    · rw [Rat.intCast_mul, Rat.intCast_mul, t2]
      have a1 := hD' _ (E.lt i hi)
      have a2 := hw' j hj
      generalize (D (r i) : Rat) = x at *
      generalize (w j : Rat) = y at *
      generalize (z0 : Rat) = u at *
      generalize B i j = v
      clear t t2 ez0 ez1 hM E hw' hD'
      have := mul_ne (mul_ne a2 a1) d0
      grind
end Mx
namespace Lib
open PySem DL
def d_is_whole : FDef := ⟨"is_whole", ["value"], ["value"],
  [.ret (.and (.bi .isInt [.var 0]) (.not (.bi .isBool [.var 0])))]⟩
def d_is_between : FDef := ⟨"is_between", ["value", "low", "high"], ["value", "low", "high"],
  [.ret (.and (.call "is_whole" [.var 0]) (.and (.cmp .le (.var 1) (.var 0)) (.cmp .le (.var 0) (.var 2))))]⟩
def d__law_tap : FDef := ⟨"_law_tap", ["script", "turn"], ["script", "turn", "own", "mixed", "each"],
  [.asg (.name 2) (.ife (.cmp .lt (.var 1) (.bi .len [.var 0])) (.bi .int [.idx (.var 0) (.var 1)]) (.op2 .add (.op2 .add (.op2 .mul (.lit (.int 8513)) (.var 1)) (.lit (.int 409))) (.op2 .mod (.bi .int [.bi .sum [.slc (.var 0) none (some (.lit (.int 3)))]]) (.lit (.int 1000081))))), .asg (.name 3) (.op2 .add (.lit (.int 61543)) (.op2 .mul (.lit (.int 1733)) (.var 1))), .for_ (.name 4) (.op2 .add (.slc (.var 0) none (some (.lit (.int 6)))) (.lst [.var 2])) [.asg (.name 3) (.op2 .mod (.bi .int [.op2 .add (.op2 .add (.op2 .mul (.var 3) (.lit (.int 52627))) (.op2 .mod (.bi .int [.var 4]) (.lit (.int 2147483549)))) (.lit (.int 23))]) (.lit (.int 2147483549)))], .ret (.lst [.ife (.or (.cmp .lt (.var 2) (.lit (.int 0))) (.cmp .ge (.var 2) (.op2 .pow (.lit (.int 10)) (.lit (.int 18))))) (.bi .abs [.var 2]) (.lit (.int 0)), .var 3, .lit (.int 0)])]⟩
def d__law_drop : FDef := ⟨"_law_drop", ["tap", "top"], ["tap", "top", "factor2", "digit"],
  [.ite (.cmp .gt (.idx (.var 0) (.lit (.int 0))) (.lit (.int 0))) [.asg (.tup [.sub 0 (.lit (.int 0)), .name 3]) (.bi .divmod [.idx (.var 0) (.lit (.int 0)), .var 1]), .ret (.var 3)] [], .asg (.sub 0 (.lit (.int 2))) (.op2 .add (.idx (.var 0) (.lit (.int 2))) (.lit (.int 1))), .asg (.name 2) (.op2 .add (.lit (.int 25117)) (.op2 .mul (.lit (.int 4)) (.bi .int [.idx (.var 0) (.lit (.int 2))]))), .asg (.sub 0 (.lit (.int 1))) (.op2 .mod (.bi .int [.op2 .add (.op2 .add (.op2 .mul (.idx (.var 0) (.lit (.int 1))) (.var 2)) (.op2 .mul (.lit (.int 60029)) (.idx (.var 0) (.lit (.int 2))))) (.lit (.int 7))]) (.lit (.int 2147483549))), .ret (.op2 .mod (.bi .int [.op2 .fdiv (.idx (.var 0) (.lit (.int 1))) (.lit (.int 71))]) (.var 1))]⟩
def d_are_wholes : FDef := ⟨"are_wholes", ["value", "many"], ["value", "many", "each"],
  [.ret (.and (.bi .isTuple [.var 0]) (.and (.cmp .eq (.bi .len [.var 0]) (.var 1)) (.bi .all [.comp (.call "is_whole" [.var 2]) (.name 2) (.var 0) none [2]])))]⟩
def d_divisor_of : FDef := ⟨"divisor_of", ["numbers"], ["numbers", "found", "number"],
  [.asg (.name 1) (.lit (.int 0)), .for_ (.name 2) (.var 0) [.asg (.name 1) (.bi .gcd [.var 1, .var 2])], .ret (.var 1)]⟩
def d_lowest : FDef := ⟨"lowest", ["numbers"], ["numbers", "part", "number"],
  [.asg (.name 1) (.call "divisor_of" [.var 0]), .ret (.ife (.cmp .eq (.var 1) (.lit (.int 0))) (.bi .tuple [.var 0]) (.bi .tuple [.comp (.op2 .fdiv (.var 2) (.var 1)) (.name 2) (.var 0) none [2]]))]⟩
def d_is_ratio : FDef := ⟨"is_ratio", ["value"], ["value"],
  [.ret (.and (.call "are_wholes" [.var 0, .lit (.int 2)]) (.and (.cmp .gt (.idx (.var 0) (.lit (.int 1))) (.lit (.int 0))) (.cmp .eq (.call "divisor_of" [.var 0]) (.lit (.int 1)))))]⟩
def d_ratio : FDef := ⟨"ratio", ["top", "low"], ["top", "low"],
  [.ret (.ife (.cmp .gt (.var 1) (.lit (.int 0))) (.call "lowest" [.tup [.var 0, .var 1]]) (.call "lowest" [.tup [.neg (.var 0), .neg (.var 1)]]))]⟩
def d_plus : FDef := ⟨"plus", ["one", "two"], ["one", "two"],
  [.ret (.call "ratio" [.op2 .add (.op2 .mul (.idx (.var 0) (.lit (.int 0))) (.idx (.var 1) (.lit (.int 1)))) (.op2 .mul (.idx (.var 1) (.lit (.int 0))) (.idx (.var 0) (.lit (.int 1)))), .op2 .mul (.idx (.var 0) (.lit (.int 1))) (.idx (.var 1) (.lit (.int 1)))])]⟩
def d_minus : FDef := ⟨"minus", ["one", "two"], ["one", "two"],
  [.ret (.call "ratio" [.op2 .sub (.op2 .mul (.idx (.var 0) (.lit (.int 0))) (.idx (.var 1) (.lit (.int 1)))) (.op2 .mul (.idx (.var 1) (.lit (.int 0))) (.idx (.var 0) (.lit (.int 1)))), .op2 .mul (.idx (.var 0) (.lit (.int 1))) (.idx (.var 1) (.lit (.int 1)))])]⟩
def d_times : FDef := ⟨"times", ["one", "two"], ["one", "two"],
  [.ret (.call "ratio" [.op2 .mul (.idx (.var 0) (.lit (.int 0))) (.idx (.var 1) (.lit (.int 0))), .op2 .mul (.idx (.var 0) (.lit (.int 1))) (.idx (.var 1) (.lit (.int 1)))])]⟩
def d_over : FDef := ⟨"over", ["one", "two"], ["one", "two"],
  [.ret (.call "ratio" [.op2 .mul (.idx (.var 0) (.lit (.int 0))) (.idx (.var 1) (.lit (.int 1))), .op2 .mul (.idx (.var 0) (.lit (.int 1))) (.idx (.var 1) (.lit (.int 0)))])]⟩
def d_total : FDef := ⟨"total", ["fractions"], ["fractions", "found", "each"],
  [.asg (.name 1) (.con "ZERO" (.tuple [(.int 0), (.int 1)])), .for_ (.name 2) (.var 0) [.asg (.name 1) (.call "plus" [.var 1, .var 2])], .ret (.var 1)]⟩
def d_is_below : FDef := ⟨"is_below", ["one", "two"], ["one", "two"],
  [.ret (.cmp .lt (.op2 .mul (.idx (.var 0) (.lit (.int 0))) (.idx (.var 1) (.lit (.int 1)))) (.op2 .mul (.idx (.var 1) (.lit (.int 0))) (.idx (.var 0) (.lit (.int 1)))))]⟩
def d_is_share : FDef := ⟨"is_share", ["value"], ["value"],
  [.ret (.and (.call "is_ratio" [.var 0]) (.and (.cmp .le (.lit (.int 0)) (.idx (.var 0) (.lit (.int 0)))) (.cmp .le (.idx (.var 0) (.lit (.int 0))) (.idx (.var 0) (.lit (.int 1))))))]⟩
def d_is_amount : FDef := ⟨"is_amount", ["value"], ["value"],
  [.ret (.and (.call "is_ratio" [.var 0]) (.cmp .gt (.idx (.var 0) (.lit (.int 0))) (.lit (.int 0))))]⟩
def d_solved : FDef := ⟨"solved", ["rows"], ["rows", "left", "many", "place", "found", "head", "at", "row", "each", "much", "mine"],
  [.asg (.name 1) (.comp (.bi .list [.var 7]) (.name 7) (.var 0) none [7]), .asg (.name 2) (.bi .len [.var 1]), .for_ (.name 3) (.range [.var 2]) [.asg (.name 4) (.idx (.comp (.var 6) (.name 6) (.range [.var 3, .var 2]) (some (.cmp .ne (.idx (.idx (.var 1) (.var 6)) (.var 3)) (.con "ZERO" (.tuple [(.int 0), (.int 1)])))) [6]) (.lit (.int 0))), .par [.sub 1 (.var 3), .sub 1 (.var 4)] [.idx (.var 1) (.var 4), .idx (.var 1) (.var 3)], .asg (.name 5) (.comp (.call "over" [.var 8, .idx (.idx (.var 1) (.var 3)) (.var 3)]) (.name 8) (.idx (.var 1) (.var 3)) none [8]), .asg (.sub 1 (.var 3)) (.var 5), .for_ (.name 6) (.range [.var 2]) [.ite (.cmp .ne (.var 6) (.var 3)) [.asg (.name 9) (.idx (.idx (.var 1) (.var 6)) (.var 3)), .asg (.sub 1 (.var 6)) (.comp (.call "minus" [.var 8, .call "times" [.var 9, .var 10]]) (.tup [.name 8, .name 10]) (.zip (.idx (.var 1) (.var 6)) (.var 5)) none [8, 10])] []]], .ret (.bi .tuple [.comp (.idx (.var 7) (.var 2)) (.name 7) (.var 1) none [7]])]⟩
def d_check_amounts : FDef := ⟨"check_amounts", ["value", "many"], ["value", "many", "at", "each"],
  [.ite (.or (.not (.bi .isTuple [.var 0])) (.cmp .ne (.bi .len [.var 0]) (.var 1))) [.raise_ "" none] [], .for_ (.tup [.name 2, .name 3]) (.enum (.var 0)) [.ite (.or (.not (.call "is_ratio" [.var 3])) (.cmp .lt (.idx (.var 3) (.lit (.int 0))) (.lit (.int 0)))) [.raise_ "" none] []]]⟩
def d_is_unit : FDef := ⟨"is_unit", ["value", "many"], ["value", "many", "each"],
  [.ite (.or (.not (.bi .isTuple [.var 0])) (.or (.cmp .ne (.bi .len [.var 0]) (.var 1)) (.not (.bi .all [.comp (.call "is_share" [.var 2]) (.name 2) (.var 0) none [2]])))) [.ret (.lit (.bool false))] [], .ret (.not (.call "is_below" [.con "ONE" (.tuple [(.int 1), (.int 1)]), .call "total" [.var 0]]))]⟩
def d_check_sheet : FDef := ⟨"check_sheet", ["value"], ["value", "at", "each"],
  [.ite (.or (.not (.bi .isTuple [.var 0])) (.or (.cmp .eq (.bi .len [.var 0]) (.lit (.int 0))) (.cmp .gt (.bi .len [.var 0]) (.con "MOST_UNITS" (.int 5))))) [.raise_ "" none] [], .for_ (.tup [.name 1, .name 2]) (.enum (.var 0)) [.ite (.not (.call "is_unit" [.var 2, .bi .len [.var 0]])) [.raise_ "" none] []]]⟩
def d_losses_by : FDef := ⟨"losses_by", ["sheet"], ["sheet", "unit"],
  [.ret (.bi .tuple [.comp (.call "minus" [.con "ONE" (.tuple [(.int 1), (.int 1)]), .call "total" [.var 1]]) (.name 1) (.var 0) none [1]])]⟩
def d_reached_from : FDef := ⟨"reached_from", ["sheet", "units"], ["sheet", "units", "found", "_", "at", "own"],
  [.asg (.name 2) (.bi .list [.var 1]), .for_ (.name 3) (.range [.bi .len [.var 0]]) [.asg (.name 2) (.comp (.var 4) (.name 4) (.range [.bi .len [.var 0]]) (some (.or (.cmp .isin (.var 4) (.var 2)) (.bi .any [.comp (.cmp .ne (.idx (.idx (.var 0) (.var 5)) (.var 4)) (.con "ZERO" (.tuple [(.int 0), (.int 1)]))) (.name 5) (.var 2) none [5]]))) [4])], .ret (.var 2)]⟩
def d_loses : FDef := ⟨"loses", ["sheet", "unit"], ["sheet", "unit", "lost", "at"],
  [.asg (.name 2) (.call "losses_by" [.var 0]), .ret (.bi .any [.comp (.cmp .ne (.idx (.var 2) (.var 3)) (.con "ZERO" (.tuple [(.int 0), (.int 1)]))) (.name 3) (.call "reached_from" [.var 0, .lst [.var 1]]) none [3]])]⟩
def d_kept_part : FDef := ⟨"kept_part", ["sheet", "one", "two"], ["sheet", "one", "two"],
  [.ret (.call "minus" [.ife (.cmp .eq (.var 1) (.var 2)) (.con "ONE" (.tuple [(.int 1), (.int 1)])) (.con "ZERO" (.tuple [(.int 0), (.int 1)])), .idx (.idx (.var 0) (.var 1)) (.var 2)])]⟩
def d_flow_by : FDef := ⟨"flow_by", ["sheet", "amounts"], ["sheet", "amounts", "fed", "rows", "found", "unit", "flow", "two", "amount", "one"],
  [.asg (.name 2) (.call "reached_from" [.var 0, .comp (.var 5) (.tup [.name 5, .name 8]) (.enum (.var 1)) (some (.cmp .ne (.var 8) (.con "ZERO" (.tuple [(.int 0), (.int 1)])))) [5, 8]]), .ite (.not (.bi .all [.comp (.call "loses" [.var 0, .var 5]) (.name 5) (.var 2) none [5]])) [.ret (.lit .none)] [], .asg (.name 3) (.comp (.op2 .add (.comp (.call "kept_part" [.var 0, .var 9, .var 7]) (.name 9) (.var 2) none [9]) (.lst [.idx (.var 1) (.var 7)])) (.name 7) (.var 2) none [7]), .asg (.name 4) (.repL [.con "ZERO" (.tuple [(.int 0), (.int 1)])] (.bi .len [.var 0])), .for_ (.tup [.name 5, .name 6]) (.zip (.var 2) (.call "solved" [.var 3])) [.asg (.sub 4 (.var 5)) (.var 6)], .ret (.bi .tuple [.var 4])]⟩
def d_least_flow : FDef := ⟨"least_flow", ["sheet", "amounts"], ["sheet", "amounts"],
  [.expr (.call "check_sheet" [.var 0]), .expr (.call "check_amounts" [.var 1, .bi .len [.var 0]]), .ret (.call "flow_by" [.var 0, .var 1])]⟩
def d__law_of : FDef := ⟨"_law_of", ["tap", "some"], ["tap", "some"],
  [.ret (.idx (.var 1) (.callIo "_law_drop" (.var 0) [.bi .len [.var 1]]))]⟩
def d__law_gcd : FDef := ⟨"_law_gcd", ["one", "two"], ["one", "two"],
  [.par [.name 0, .name 1] [.bi .abs [.var 0], .bi .abs [.var 1]], .while_ (.cmp .gt (.var 1) (.lit (.int 0))) [.par [.name 0, .name 1] [.var 1, .op2 .mod (.bi .int [.var 0]) (.var 1)]], .ret (.var 0)]⟩
def d__law_thin : FDef := ⟨"_law_thin", ["some"], ["some", "deep", "each"],
  [.asg (.name 1) (.lit (.int 0)), .for_ (.name 2) (.var 0) [.asg (.name 1) (.ife (.cmp .ne (.var 1) (.lit (.int 1))) (.call "_law_gcd" [.var 1, .var 2]) (.lit (.int 1)))], .ret (.ife (.cmp .gt (.var 1) (.lit (.int 1))) (.bi .tuple [.comp (.op2 .fdiv (.var 2) (.var 1)) (.name 2) (.var 0) none [2]]) (.bi .tuple [.var 0]))]⟩
def d__law_frac : FDef := ⟨"_law_frac", ["n", "m"], ["n", "m"],
  [.ret (.call "_law_thin" [.ife (.cmp .gt (.var 1) (.lit (.int 0))) (.tup [.var 0, .var 1]) (.tup [.op2 .sub (.lit (.int 0)) (.var 0), .op2 .sub (.lit (.int 0)) (.var 1)])])]⟩
def d__law_add : FDef := ⟨"_law_add", ["one", "two"], ["one", "two"],
  [.ret (.call "_law_frac" [.op2 .add (.op2 .mul (.idx (.var 0) (.lit (.int 0))) (.idx (.var 1) (.lit (.int 1)))) (.op2 .mul (.idx (.var 1) (.lit (.int 0))) (.idx (.var 0) (.lit (.int 1)))), .op2 .mul (.idx (.var 0) (.lit (.int 1))) (.idx (.var 1) (.lit (.int 1)))])]⟩
def d__law_less : FDef := ⟨"_law_less", ["one", "two"], ["one", "two"],
  [.ret (.call "_law_frac" [.op2 .sub (.op2 .mul (.idx (.var 0) (.lit (.int 0))) (.idx (.var 1) (.lit (.int 1)))) (.op2 .mul (.idx (.var 1) (.lit (.int 0))) (.idx (.var 0) (.lit (.int 1)))), .op2 .mul (.idx (.var 0) (.lit (.int 1))) (.idx (.var 1) (.lit (.int 1)))])]⟩
def d__law_over : FDef := ⟨"_law_over", ["one", "two"], ["one", "two"],
  [.ret (.call "_law_frac" [.op2 .mul (.idx (.var 0) (.lit (.int 0))) (.idx (.var 1) (.lit (.int 1))), .op2 .mul (.idx (.var 0) (.lit (.int 1))) (.idx (.var 1) (.lit (.int 0)))])]⟩
def d__law_side : FDef := ⟨"_law_side", ["one", "two"], ["one", "two", "gap"],
  [.asg (.name 2) (.op2 .sub (.op2 .mul (.idx (.var 0) (.lit (.int 0))) (.idx (.var 1) (.lit (.int 1)))) (.op2 .mul (.idx (.var 1) (.lit (.int 0))) (.idx (.var 0) (.lit (.int 1))))), .ret (.ife (.cmp .gt (.var 2) (.lit (.int 0))) (.lit (.int 1)) (.ife (.cmp .lt (.var 2) (.lit (.int 0))) (.neg (.lit (.int 1))) (.lit (.int 0))))]⟩
def d__law_total : FDef := ⟨"_law_total", ["some"], ["some", "found", "each"],
  [.asg (.name 1) (.tup [.lit (.int 0), .lit (.int 1)]), .for_ (.name 2) (.var 0) [.asg (.name 1) (.call "_law_add" [.var 1, .var 2])], .ret (.var 1)]⟩
def d__law_amount : FDef := ⟨"_law_amount", ["tap"], ["tap", "top", "low2"],
  [.par [.name 1, .name 2] [.callIo "_law_of" (.var 0) [.lst [.lit (.int 2), .lit (.int 3), .lit (.int 5), .lit (.int 9), .lit (.int 9), .lit (.int 400)]], .callIo "_law_of" (.var 0) [.lst [.lit (.int 1), .lit (.int 1), .lit (.int 2), .lit (.int 5), .lit (.int 9), .lit (.int 400)]]], .ret (.call "_law_frac" [.op2 .add (.lit (.int 1)) (.callIo "_law_drop" (.var 0) [.var 1]), .op2 .add (.lit (.int 1)) (.callIo "_law_drop" (.var 0) [.var 2])])]⟩
def d_check_unit : FDef := ⟨"check_unit", ["sheet", "value"], ["sheet", "value"],
  [.ite (.not (.call "is_between" [.var 1, .lit (.int 0), .op2 .sub (.bi .len [.var 0]) (.lit (.int 1))])) [.raise_ "" none] []]⟩
def d__law_unit : FDef := ⟨"_law_unit", ["tap", "count", "is_shut"], ["tap", "count", "is_shut", "numbers2", "lap", "loss2", "under", "each"],
  [.asg (.name 3) (.lst []), .for_ (.name 4) (.range [.var 1]) [.app 3 (.callIo "_law_of" (.var 0) [.ife (.not (.var 2)) (.lst [.lit (.int 0), .lit (.int 0), .lit (.int 1), .lit (.int 1), .lit (.int 2), .lit (.int 3)]) (.lst [.lit (.int 0), .lit (.int 0), .lit (.int 0), .lit (.int 1), .lit (.int 2)])])], .asg (.name 5) (.callIo "_law_of" (.var 0) [.ife (.not (.var 2)) (.lst [.lit (.int 0), .lit (.int 0), .lit (.int 1), .lit (.int 2), .lit (.int 5), .lit (.int 400)]) (.lst [.lit (.int 0), .lit (.int 0), .lit (.int 0), .lit (.int 0), .lit (.int 1)])]), .ite (.and (.var 2) (.cmp .eq (.bi .sum [.var 3]) (.lit (.int 0)))) [.asg (.sub 3 (.callIo "_law_drop" (.var 0) [.var 1])) (.lit (.int 1))] [], .asg (.name 6) (.op2 .add (.bi .sum [.var 3]) (.var 5)), .ret (.bi .tuple [.comp (.ife (.cmp .gt (.var 6) (.lit (.int 0))) (.call "_law_frac" [.var 7, .var 6]) (.tup [.lit (.int 0), .lit (.int 1)])) (.name 7) (.var 3) none [7]])]⟩
def d__law_net : FDef := ⟨"_law_net", ["tap"], ["tap", "lap", "count", "found", "is_shut"],
  [.par [.name 2, .name 3, .name 4] [.op2 .add (.lit (.int 1)) (.callIo "_law_drop" (.var 0) [.lit (.int 5)]), .lst [], .cmp .lt (.callIo "_law_drop" (.var 0) [.lit (.int 5)]) (.lit (.int 3))], .for_ (.name 1) (.range [.var 2]) [.app 3 (.callIo "_law_unit" (.var 0) [.var 2, .var 4])], .ret (.bi .tuple [.var 3])]⟩
def d__law_to : FDef := ⟨"_law_to", ["net", "unit2"], ["net", "unit2", "found", "lap", "at", "each"],
  [.asg (.name 2) (.lst [.var 1]), .for_ (.name 3) (.range [.bi .len [.var 0]]) [.for_ (.name 4) (.range [.bi .len [.var 0]]) [.ite (.and (.cmp .notin (.var 4) (.var 2)) (.bi .any [.comp (.cmp .gt (.idx (.idx (.idx (.var 0) (.var 5)) (.var 4)) (.lit (.int 0))) (.lit (.int 0))) (.name 5) (.var 2) none [5]])) [.app 2 (.var 4)] []]], .ret (.bi .tuple [.bi .sorted [.var 2]])]⟩
def d__law_losses : FDef := ⟨"_law_losses", ["net"], ["net", "each"],
  [.ret (.bi .tuple [.comp (.call "_law_less" [.tup [.lit (.int 1), .lit (.int 1)], .call "_law_total" [.var 1]]) (.name 1) (.var 0) none [1]])]⟩
def d__law_ways_out : FDef := ⟨"_law_ways_out", ["net", "unit2"], ["net", "unit2", "lost", "at"],
  [.asg (.name 2) (.call "_law_losses" [.var 0]), .ret (.bi .any [.comp (.cmp .gt (.idx (.idx (.var 2) (.var 3)) (.lit (.int 0))) (.lit (.int 0))) (.name 3) (.call "_law_to" [.var 0, .var 1]) none [3]])]⟩
def d__law_times : FDef := ⟨"_law_times", ["one", "two"], ["one", "two"],
  [.ret (.call "_law_frac" [.op2 .mul (.idx (.var 0) (.lit (.int 0))) (.idx (.var 1) (.lit (.int 0))), .op2 .mul (.idx (.var 0) (.lit (.int 1))) (.idx (.var 1) (.lit (.int 1)))])]⟩
def d_thinner : FDef := ⟨"thinner", ["sheet", "unit", "part"], ["sheet", "unit", "part", "at", "row", "share"],
  [.ret (.bi .tuple [.comp (.ife (.cmp .eq (.var 3) (.var 1)) (.bi .tuple [.comp (.call "times" [.var 2, .var 5]) (.name 5) (.var 4) none [5]]) (.var 4)) (.tup [.name 3, .name 4]) (.enum (.var 0)) none [3, 4]])]⟩
def d_bled : FDef := ⟨"bled", ["sheet", "unit", "part"], ["sheet", "unit", "part"],
  [.expr (.call "check_sheet" [.var 0]), .expr (.call "check_unit" [.var 0, .var 1]), .ite (.or (.not (.call "is_share" [.var 2])) (.cmp .eq (.var 2) (.con "ONE" (.tuple [(.int 1), (.int 1)])))) [.raise_ "" none] [], .ret (.call "thinner" [.var 0, .var 1, .call "minus" [.con "ONE" (.tuple [(.int 1), (.int 1)]), .var 2]])]⟩
def d__law_solved : FDef := ⟨"_law_solved", ["rows2", "rights"], ["rows2", "rights", "left", "at", "pivot", "head", "k", "each", "times_v", "to"],
  [.asg (.name 2) (.comp (.op2 .add (.bi .list [.idx (.var 0) (.var 3)]) (.lst [.idx (.var 1) (.var 3)])) (.name 3) (.range [.bi .len [.var 1]]) none [3]), .for_ (.name 3) (.range [.bi .len [.var 2]]) [.asg (.name 4) (.idx (.comp (.var 6) (.name 6) (.range [.var 3, .bi .len [.var 2]]) (some (.cmp .ne (.idx (.idx (.idx (.var 2) (.var 6)) (.var 3)) (.lit (.int 0))) (.lit (.int 0)))) [6]) (.lit (.int 0))), .par [.sub 2 (.var 3), .sub 2 (.var 4)] [.idx (.var 2) (.var 4), .idx (.var 2) (.var 3)], .asg (.name 5) (.comp (.call "_law_over" [.var 7, .idx (.idx (.var 2) (.var 3)) (.var 3)]) (.name 7) (.idx (.var 2) (.var 3)) none [7]), .asg (.sub 2 (.var 3)) (.var 5), .for_ (.name 6) (.range [.bi .len [.var 2]]) [.ite (.and (.cmp .ne (.var 6) (.var 3)) (.cmp .ne (.idx (.idx (.idx (.var 2) (.var 6)) (.var 3)) (.lit (.int 0))) (.lit (.int 0)))) [.asg (.name 8) (.idx (.idx (.var 2) (.var 6)) (.var 3)), .asg (.sub 2 (.var 6)) (.comp (.call "_law_less" [.idx (.idx (.var 2) (.var 6)) (.var 9), .call "_law_times" [.var 8, .idx (.var 5) (.var 9)]]) (.name 9) (.range [.bi .len [.var 5]]) none [9])] []]], .ret (.comp (.idx (.var 7) (.neg (.lit (.int 1)))) (.name 7) (.var 2) none [7])]⟩
def d__law_rest : FDef := ⟨"_law_rest", ["net", "loads"], ["net", "loads", "wet", "found", "rows2", "told", "k", "at", "each", "one", "two"],
  [.asg (.name 2) (.comp (.var 7) (.name 7) (.range [.bi .len [.var 0]]) (some (.bi .any [.comp (.and (.cmp .gt (.idx (.idx (.var 1) (.var 6)) (.lit (.int 0))) (.lit (.int 0))) (.cmp .isin (.var 7) (.call "_law_to" [.var 0, .var 6]))) (.name 6) (.range [.bi .len [.var 0]]) none [6]])) [7]), .ite (.not (.bi .all [.comp (.call "_law_ways_out" [.var 0, .var 7]) (.name 7) (.var 2) none [7]])) [.ret (.lit .none)] [], .asg (.name 3) (.comp (.tup [.lit (.int 0), .lit (.int 1)]) (.name 8) (.var 0) none [8]), .asg (.name 4) (.comp (.comp (.call "_law_less" [.ife (.cmp .eq (.var 9) (.var 10)) (.tup [.lit (.int 1), .lit (.int 1)]) (.tup [.lit (.int 0), .lit (.int 1)]), .idx (.idx (.var 0) (.var 10)) (.var 9)]) (.name 10) (.var 2) none [10]) (.name 9) (.var 2) none [9]), .asg (.name 5) (.call "_law_solved" [.var 4, .comp (.idx (.var 1) (.var 7)) (.name 7) (.var 2) none [7]]), .for_ (.name 6) (.range [.bi .len [.var 2]]) [.asg (.sub 3 (.idx (.var 2) (.var 6))) (.idx (.var 5) (.var 6))], .ret (.bi .tuple [.var 3])]⟩
def d__law_cut_row : FDef := ⟨"_law_cut_row", ["net", "unit2", "part2"], ["net", "unit2", "part2", "rest", "each"],
  [.asg (.name 3) (.call "_law_less" [.tup [.lit (.int 1), .lit (.int 1)], .var 2]), .ret (.op2 .add (.op2 .add (.slc (.var 0) none (some (.var 1))) (.tup [.bi .tuple [.comp (.call "_law_times" [.var 4, .var 3]) (.name 4) (.idx (.var 0) (.var 1)) none [4]]])) (.slc (.var 0) (some (.op2 .add (.var 1) (.lit (.int 1)))) none))]⟩
end Lib
namespace Lib
open PySem DL L2
class Nd (P : List FDef) : Prop where nd : (P.map (·.name)).Nodup
class Has (P : List FDef) (d : FDef) : Prop where mem : d ∈ P
local macro_rules | `(tactic| walk_at "w1") => `(tactic| (first
  | (with_reducible refine R.lit ?_) | (with_reducible refine R.con ?_)
  | ((with_reducible refine' R.var ?g ?h); (case g => exact rfl))
  | ((with_reducible refine' R.varO ?g ?h); (case g => exact rfl))
  | (with_reducible refine R.op2 ?_) | (with_reducible refine R.cmp ?_) | (with_reducible refine R.idx ?_) | (with_reducible refine R.slc ?_) | (with_reducible refine R.oN ?_) | (with_reducible refine R.oS ?_)
  | (with_reducible refine R.tcmp ?_) | (with_reducible refine R.tnot ?_) | (with_reducible refine R.tand ?_) | (with_reducible refine R.tor ?_) | (with_reducible refine R.tcall ?_) | (with_reducible refine R.tbi ?_) | (with_reducible refine R.tisN ?_) | (with_reducible refine R.tnotN ?_) | (with_reducible refine R.tchain ?_) | (with_reducible refine R.tvar ?_) | (with_reducible refine R.tcallK ?_)
  | (with_reducible refine R.isN ?_) | (with_reducible refine R.notN ?_) | (with_reducible refine R.chain ?_) | (with_reducible refine R.neg ?_) | (with_reducible refine R.not ?_) | (with_reducible refine R.and ?_) | (with_reducible refine R.or ?_) | (with_reducible refine R.ife ?_)
  | (with_reducible refine R.tup ?_) | (with_reducible refine R.lst ?_) | (with_reducible refine R.call ?_) | (with_reducible refine R.callK ?_) | (with_reducible refine R.callIo ?_) | (with_reducible refine R.bi ?_) | (with_reducible refine R.comp ?_) | (with_reducible refine R.index ?_) | (with_reducible refine R.repL ?_) | (with_reducible refine R.listR ?_)
  | (with_reducible refine R.an ?_) | (with_reducible refine R.ac ?_) | (with_reducible refine R.en ?_) | (with_reducible refine R.ec ?_) | (with_reducible refine R.ed ?_) | (with_reducible refine R.eo ?_)
  | ((with_reducible refine' R.erd ?g ?h); (case g => exact rfl)) | ((with_reducible refine' R.ero ?g ?h); (case g => exact rfl))
  | ((with_reducible refine' R.w1 ?g ?h); (case g => exact rfl)) | ((with_reducible refine' R.w2 ?g ?g' ?h); (case g => exact rfl); (case g' => exact rfl)) | ((with_reducible refine' R.ws ?g ?h); (case g => exact rfl))
  | (with_reducible refine R.fval rfl ?_) | (with_reducible refine R.f_l ?_) | (with_reducible refine R.f_t ?_) | (with_reducible refine R.ival rfl ?_) | (with_reducible refine R.i_l ?_) | (with_reducible refine R.i_t ?_) | (with_reducible refine R.i_o ?_) | ((with_reducible refine' R.i_r ?g ?h); (case g => exact rfl))
  | (with_reducible refine R.irange ?_) | (with_reducible refine R.frange ?_) | (with_reducible refine R.ienum ?_) | (with_reducible refine R.fenum ?_) | (with_reducible refine R.izip ?_) | (with_reducible refine R.fzip ?_) | (with_reducible refine R.irev ?_) | (with_reducible refine R.frev ?_) | ((with_reducible refine' R.zip_at ?g ?g' ?h); (case g => exact rfl); (case g' => exact rfl)) | (with_reducible refine R.eq_i ?_) | (with_reducible refine R.ne_i ?_) | (with_reducible refine R.sretN ?_)
  | (with_reducible refine R.sn ?_) | (with_reducible refine R.sc ?_) | (with_reducible refine R.sasg ?_) | (with_reducible refine R.spar ?_) | (with_reducible refine R.sexpr ?_) | (with_reducible refine R.sapp ?_) | (with_reducible refine R.sext ?_) | (with_reducible refine R.sret ?_) | (with_reducible refine R.site ?_) | (with_reducible refine R.sfor ?_)
  | ((with_reducible refine R.nd_ ?n ?h); (case n => first | exact R.nio rfl rfl | exact R.nio rfl (DL.NoOw.ok (by assumption)))) | ((with_reducible refine R.no_ ?n ?h); (case n => first | exact R.nio rfl rfl | exact R.nio rfl (DL.NoOw.ok (by assumption)))) | ((with_reducible refine R.nr_ ?n ?h); (case n => first | exact R.nio rfl rfl | exact R.nio rfl (DL.NoOw.ok (by assumption))))
  | ((with_reducible refine' R.an_name ?n ?h); (case n => first | assumption | exact R.nio rfl rfl | exact R.nio rfl (DL.NoOw.ok (by assumption)))) | ((with_reducible refine' R.an_two ?n ?m ?h); (case n => first | assumption | exact R.nio rfl rfl | exact R.nio rfl (DL.NoOw.ok (by assumption))); (case m => first | assumption | exact R.nio rfl rfl | exact R.nio rfl (DL.NoOw.ok (by assumption)))) | ((with_reducible refine' R.an_three ?n ?m ?o ?h); (case n => first | assumption | exact R.nio rfl rfl | exact R.nio rfl (DL.NoOw.ok (by assumption))); (case m => first | assumption | exact R.nio rfl rfl | exact R.nio rfl (DL.NoOw.ok (by assumption))); (case o => first | assumption | exact R.nio rfl rfl | exact R.nio rfl (DL.NoOw.ok (by assumption)))) | (with_reducible refine R.tt rfl ?_) | (with_reducible refine R.tn ?_) | (with_reducible refine R.tc ?_) | (with_reducible refine R.subd ?_) | ((with_reducible refine' R.own_and ?g ?h); (case g => exact rfl)) | ((with_reducible refine' R.put_at ?g ?g' ?h); (case g => exact rfl); (case g' => exact rfl)) | ((with_reducible refine' R.io_ref ?g ?h); (case g => exact rfl)) | (with_reducible refine R.io_own ?_) | (with_reducible refine R.one_1 ?_) | (with_reducible refine R.setn ?_) | (with_reducible refine R.setd ?_) | (with_reducible refine R.seto ?_) | (with_reducible refine R.setr ?_)
  | ((with_reducible refine' R.find ?g ?h); (case g => exact rfl)) | ((with_reducible refine' R.fino ?g ?h); (case g => exact rfl)) | ((with_reducible refine' R.finr ?g ?g' ?h); (case g => exact rfl); (case g' => exact rfl)) | ((with_reducible refine' R.find' ?g ?g' ?h); (case g => exact rfl); (case g' => exact rfl))
  | (with_reducible refine R.ifT ?_) | (with_reducible refine R.ifF ?_)
  | ((with_reducible refine' R.pow_i ?g ?h); (case g => decide)) | ((with_reducible refine' R.mul_i ?g ?h); (case g => exact mulOk 60 60 (by omega) (by omega) (by decide))) | ((with_reducible refine' R.fdiv_i ?g ?h); (case g => exact divOk (by omega) (by omega))) | ((with_reducible refine' R.mod_i ?g ?h); (case g => omega))
  | (with_reducible refine R.add_i ?_) | (with_reducible refine R.sub_i ?_) | (with_reducible refine R.lt_i ?_) | (with_reducible refine R.le_i ?_) | (with_reducible refine R.gt_i ?_) | (with_reducible refine R.ge_i ?_)
  | ((with_reducible refine' R.idx_l ?g ?h); (case g => exact rfl)) | ((with_reducible refine' R.idx_t ?g ?h); (case g => exact rfl)) | (with_reducible refine R.slc_l ?_) | (with_reducible refine R.slc_t ?_)
  | (with_reducible refine R.len_l ?_) | (with_reducible refine R.len_t ?_) | (with_reducible refine R.tuple_l ?_) | (with_reducible refine R.tuple_t ?_) | (with_reducible refine R.list_l ?_) | (with_reducible refine R.list_t ?_) | (with_reducible refine R.abs_i ?_) | (with_reducible refine R.int_i ?_) | (with_reducible refine R.gcd_i ?_)
  | (with_reducible refine R.isint ?_) | (with_reducible refine R.isbool ?_) | (with_reducible refine R.istuple ?_) | (with_reducible refine R.islist ?_)
  | (with_reducible refine R.sum_is ?_) | (with_reducible refine R.all_bs ?_) | ((with_reducible refine R.any_bs ?_))); (try dsimp only [List.map, List.set, Int.reduceToNat, Bool.not_true, Bool.not_false, DL.restR, DL.gt, DL.wipeR]))
theorem w_drop {P : List FDef} [Nd P] [Has P d__law_drop] {k : Nat} {a b c t : Int} {Q E} (ha : 0 ≤ a) (hb : 0 ≤ b) (hb2 : b < 2147483549) (hc : 0 ≤ c) (hc2 : c < 1000000000) (ht : 0 < t) (ht2 : t < 1000000000)
   (h : ∀ a' b' c' r : Int, 0 ≤ a' → 0 ≤ b' → b' < 2147483549 → 0 ≤ c' → c' ≤ c + 1 → 0 ≤ r → r < t → Q (.dat (.int r)) [[.int a', .int b', .int c']]) : gam P (k + 1) "_law_drop" [.own true [.int a, .int b, .int c], .dat (.int t)] Q E := by
  refine R.opn Nd.nd (Has.mem (d := d__law_drop)) rfl ?_
  simp only [d__law_drop, List.map, List.replicate, List.length_cons, List.length_nil, List.cons_append, List.nil_append, Nat.reduceAdd, Nat.reduceSub]
  (repeat walk_at "w1")
  refine R.iteD (fun h1 => ?_) fun h1 => ?_
  · (repeat walk_at "w1")
    refine R.divmod_i ⟨ht, by omega⟩ ?_
    (repeat walk_at "w1")
    exact h _ _ _ _ (Int.ediv_nonneg ha (by omega)) hb hb2 hc (by omega) (Int.emod_nonneg _ (by omega)) (Int.emod_lt_of_pos _ ht)
  · (repeat walk_at "w1")
    exact h _ _ _ _ ha (Int.emod_nonneg _ (by omega)) (Int.emod_lt_of_pos _ (by omega)) (by omega) (by omega) (Int.emod_nonneg _ (by omega)) (Int.emod_lt_of_pos _ ht)
theorem atI_ints {ns : List Int} {t : Int} (h0 : 0 ≤ t) (h : t < ns.length) : ∃ v : Int, atI (ns.map PyData.int) t = some (.int v) := by
  obtain ⟨n, rfl⟩ := Int.eq_ofNat_of_zero_le h0
  have hn : n < ns.length := by omega
  exact ⟨ns[n], atI_nat (by simp [hn])⟩
theorem cut_ints (ns : List Int) (lo hi : Option Int) : ∃ ms : List Int, cutD (ns.map PyData.int) lo hi = ms.map PyData.int ∧ ms.length ≤ ns.length := by
  unfold cutD
  simp only [List.length_map, ← List.map_drop, ← List.map_take]
  exact ⟨_, rfl, by simp; omega⟩
theorem w_tap {P : List FDef} [Nd P] [Has P d__law_tap] {k : Nat} {ns : List Int} {t : Int} {Q E} (hl : ns.length ≤ 63) (ht : 0 ≤ t) (ht2 : t < 1000000)
   (h : ∀ a b : Int, 0 ≤ a → 0 ≤ b → b < 2147483549 → Q (.own [.int a, .int b, .int 0]) []) : gam P (k + 1) "_law_tap" [.dat (.list (ns.map .int)), .dat (.int t)] Q E := by
  refine R.opn Nd.nd (Has.mem (d := d__law_tap)) rfl ?_
  simp only [d__law_tap, List.map, List.replicate, List.length_cons, List.length_nil, List.cons_append, List.nil_append, Nat.reduceAdd, Nat.reduceSub]
  walk_at "w1"; walk_at "w1"
  refine R.join (fun v : Int => .dat (.int v)) (fun own => ?_) fun q' key => ?_
  · (repeat walk_at "w1")
    obtain ⟨ms, e, hm⟩ := cut_ints ns none (some 6)
    rw [e]
    refine R.add_l (by unfold LenOk; rw [sizeLine_eq]; simp; omega) ?_
    (repeat walk_at "w1")
    refine R.for_rule (fun xs ρ => ∃ (zs : List Int) (m : Int) (x : Option Sl), 0 ≤ m ∧ m < 2147483549 ∧ xs = zs.map .int ∧ R.okSl x = true ∧ ρ = [some (Sl.dat (PyData.list (List.map PyData.int ns))), some (Sl.dat (PyData.int t)), some (Sl.dat (PyData.int own)), some (Sl.dat (PyData.int m)), x]) ?ha ?hb _ _ ?hc
    case hc => exact ⟨ms ++ [own], _, none, by omega, by omega, by simp, rfl, rfl⟩
    case ha =>
      rintro ρ ⟨zs, m, x, h1, h2, h3, h4, rfl⟩
      (repeat walk_at "w1")
      refine R.iteD (fun g1 => ?_) fun g1 => ?_
      · (repeat walk_at "w1")
        exact h _ _ (by split <;> omega) h1 h2
      · (repeat walk_at "w1")
        refine R.iteD (fun g2 => ?_) fun g2 => ?_
        · (repeat walk_at "w1")
          exact h _ _ (by split <;> omega) h1 h2
        · (repeat walk_at "w1")
          exact h _ _ (by omega) h1 h2
    case hb =>
      rintro y ys ρ nx ⟨zs, m, x, h1, h2, h3, h4, rfl⟩ hx
      cases zs with
      | nil => cases h3
      | cons z zs =>
        obtain ⟨rfl, rfl⟩ := List.cons.inj h3
        refine R.an_name (R.nio rfl h4) ?_
        (repeat walk_at "w1")
        exact hx _ ⟨zs, _, _, Int.emod_nonneg _ (by omega), Int.emod_lt_of_pos _ (by omega), rfl, rfl, rfl⟩
  · (repeat walk_at "w1")
    refine R.iteD (fun h1 => ?_) fun h1 => ?_
    · (repeat walk_at "w1")
      obtain ⟨v, hv⟩ := atI_ints (ns := ns) ht (by simpa using h1)
      refine R.idx_l hv ?_
      (repeat walk_at "w1")
      exact key _
    · (repeat walk_at "w1")
      obtain ⟨ms, e, hm⟩ := cut_ints ns none (some 3)
      rw [e]
      (repeat walk_at "w1")
      exact key _
/-- the greatest divisor of some -/
def gcds (g : Nat) (ns : List Int) : Nat := ns.foldl (fun g n => Nat.gcd g n.natAbs) g
theorem w_divisor_of {P : List FDef} [Nd P] [Has P d_divisor_of] {k : Nat} {d : D} {ns : List Int} {Q E} (hd : d = .tuple (ns.map .int) ∨ d = .list (ns.map .int)) (h : Q (.dat (.int (gcds 0 ns))) []) : gam P (k + 1) "divisor_of" [.dat d] Q E := by
  refine R.opn Nd.nd (Has.mem (d := d_divisor_of)) rfl ?_
  simp only [d_divisor_of, List.map, List.replicate, List.length_cons, List.length_nil, List.cons_append, List.nil_append, Nat.reduceAdd, Nat.reduceSub]
  walk_at "w1"; walk_at "w1"; walk_at "w1"; walk_at "w1"; walk_at "w1"; walk_at "w1"
  have loop : ∀ dd : DEn, (∀ x, R.okSl x = true → dd.nx [some (.dat d), some (.dat (.int (gcds 0 ns))), x]) → forL (asnN (.name 2)) (wpSs (gam P k) [.asg (.name 1) (.bi .gcd [.var 1, .var 2])] E) dd (ns.map .int) [some (.dat d), some (.dat (.int 0)), none] := by
    intro dd hq
    have gen : ∀ (zs : List Int) (g : Nat) (x : Option Sl), R.okSl x = true → gcds g zs = gcds 0 ns → forL (asnN (.name 2)) (wpSs (gam P k) [.asg (.name 1) (.bi .gcd [.var 1, .var 2])] E) dd (zs.map .int) [some (.dat d), some (.dat (.int g)), x] := by
      intro zs
      induction zs with
      | nil =>
        intro g x hx e
        simp only [List.map, forL]
        have : gcds g [] = g := rfl
        rw [← e, this] at hq
        exact hq x hx
      | cons z zs ih =>
        intro g x hx e
        simp only [List.map, forL]
        refine R.an_name (R.nio rfl hx) ?_
        (repeat walk_at "w1")
        exact ih _ _ rfl (by rw [← e]; rfl)
    exact gen ns 0 none rfl rfl
  rcases hd with rfl | rfl
  · (repeat walk_at "w1")
    refine loop _ fun x hx => ?_
    (repeat walk_at "w1")
    exact h
  · (repeat walk_at "w1")
    refine loop _ fun x hx => ?_
    (repeat walk_at "w1")
    exact h
/-- [f x for x in xs], the rest as it was -/
theorem comp_map {i : Nat} {te : DTE} {ck : Rho → Prop} {q : List D → Rho → Prop} {ρ0 : Rho} (f : D → D) (hi : gt ρ0 i = none) (hw : ∀ d : D, (ρ0.set i (some (.dat d))).set i none = ρ0) (hck : ck ρ0) :
    ∀ (xs acc : List D), (∀ x ∈ xs, ∀ nx : D → Rho → Prop, nx (f x) (ρ0.set i (some (.dat x))) → te (fun _ => False) (ρ0.set i (some (.dat x))) fun r ρ3 => esc r ρ3 nx) → q (acc ++ xs.map f) ρ0 → compL (asnN (.name i)) (fun _ ρ Q => Q true ρ) te ck [i] q xs acc ρ0
  | [], acc, _, h => by
    simp only [compL]
    exact ⟨hck, by simpa using h⟩
  | x :: xs, acc, he, h => by
    simp only [compL]
    refine ⟨hck, R.an_name (R.nio hi rfl) ?_⟩
    rw [if_pos (by trivial)]
    refine he x List.mem_cons_self _ ?_
    simp only [wipeR, hw]
    exact comp_map f hi hw hck xs _ (fun y hy => he y (List.mem_cons_of_mem _ hy)) (by simpa using h)
theorem shp_int (i : Int) : shp (.int i) := by unfold shp; rfl
theorem w_lowest {P : List FDef} [Nd P] [Has P d_lowest] [Has P d_divisor_of] {k : Nat} {ns : List Int} {Q E} (hg : 0 < gcds 0 ns) (hb : DivOk (gcds 0 ns : Int)) (h : Q (.dat (.tuple (ns.map fun n => .int (n / (gcds 0 ns : Int))))) []) : gam P (k + 2) "lowest" [.dat (.tuple (ns.map .int))] Q E := by
  refine R.opn Nd.nd (Has.mem (d := d_lowest)) rfl ?_
  simp only [d_lowest, List.map, List.replicate, List.length_cons, List.length_nil, List.cons_append, List.nil_append, Nat.reduceAdd, Nat.reduceSub]
  (repeat walk_at "w1")
  refine w_divisor_of (.inl rfl) ?_
  (repeat walk_at "w1")
  rw [decide_eq_false (show ¬ (gcds 0 ns : Int) = 0 by omega)]
  (repeat walk_at "w1")
  refine ⟨fun i hi b xs e => ?_, ?_⟩
  · rcases List.mem_singleton.mp hi with rfl
    cases e
  simp only [wpo, wipeR]
  refine comp_map (fun x => match x with | .int n => .int (n / (gcds 0 ns : Int)) | x => x) rfl (fun _ => rfl) trivial _ _ (fun x hx nx hn => ?_) ?_
  · obtain ⟨n, _, rfl⟩ := List.mem_map.mp hx
    (repeat walk_at "w1")
    refine R.fdiv_i hb ?_
    (repeat walk_at "w1")
    exact hn
  · (repeat walk_at "w1")
    simp only [List.nil_append, List.map_map, Function.comp_def]
    exact h
/-- a fraction as the program holds it -/
def fr (q : Rat) : D := .tuple [.int q.num, .int (q.den : Int)]
theorem gcds_two (a b : Int) : gcds 0 [a, b] = Nat.gcd a.natAbs b.natAbs := by simp [gcds]
/-- lowest of a top and a low above 0 -/
theorem low_fr (n : Int) (d : Nat) (hd : 0 < d) : (.tuple ([n, (d : Int)].map fun z => .int (z / (gcds 0 [n, (d : Int)] : Int))) : D) = fr (mkRat n d) := by
  have h : mkRat n d = Rat.normalize n d (by omega) := by rw [Rat.normalize_eq_mkRat]
  rw [h, Rat.normalize_eq, gcds_two]
  simp only [fr, List.map, Int.natAbs_natCast]
  congr 3
theorem gcd_div (n : Int) {l : Int} (hl : 0 < l) (hb : l.natAbs.log2 < 9000) : 0 < gcds 0 [n, l] ∧ DivOk (gcds 0 [n, l] : Int) := by
  have h0 : 0 < gcds 0 [n, l] := by
    rw [gcds_two]
    exact Nat.gcd_pos_of_pos_right _ (by omega)
  refine ⟨h0, by omega, ?_⟩
  have le : gcds 0 [n, l] ≤ l.natAbs := by
    rw [gcds_two]
    exact Nat.gcd_le_right _ (by omega)
  rw [Int.natAbs_natCast]
  have a : l.natAbs < 2 ^ 9000 := (Nat.log2_lt (by omega)).mp hb
  exact (Nat.log2_lt (by omega)).mpr (Nat.lt_of_le_of_lt le a)
theorem w_ratio {P : List FDef} [Nd P] [Has P d_ratio] [Has P d_lowest] [Has P d_divisor_of] {k : Nat} {n l : Int} {Q E} (hl : 0 < l) (hb : l.natAbs.log2 < 9000) (h : Q (.dat (fr (mkRat n l.toNat))) []) : gam P (k + 3) "ratio" [.dat (.int n), .dat (.int l)] Q E := by
  refine R.opn Nd.nd (Has.mem (d := d_ratio)) rfl ?_
  simp only [d_ratio, List.map, List.replicate, List.length_cons, List.length_nil, List.cons_append, List.nil_append, Nat.reduceAdd, Nat.reduceSub]
  (repeat walk_at "w1")
  refine R.iteD (fun _ => ?_) fun g => absurd hl g
  (repeat walk_at "w1")
  obtain ⟨g1, g2⟩ := gcd_div n hl hb
  refine w_lowest (ns := [n, l]) g1 g2 ?_
  (repeat walk_at "w1")
  obtain ⟨d, rfl⟩ := Int.eq_ofNat_of_zero_le (Int.le_of_lt hl)
  have := low_fr n d (by omega)
  simp only [List.map] at this
  rw [this]
  exact h
/-- top and low have at most m bits -/
def Sz (m : Nat) (q : Rat) : Prop := q.num.natAbs < 2 ^ m ∧ q.den < 2 ^ m
theorem mkRat_add (a b : Rat) : mkRat (a.num * (b.den : Int) + b.num * (a.den : Int)) ((a.den : Int) * (b.den : Int)).toNat = a + b := by
  rw [Rat.add_def, Rat.normalize_eq_mkRat]
  congr 1
theorem w_plus {P : List FDef} [Nd P] [Has P d_plus] [Has P d_ratio] [Has P d_lowest] [Has P d_divisor_of] {k : Nat} {a b : Rat} {s t : Nat} {Q E} (ha : Sz s a) (hb : Sz t b) (hs : s + t ≤ 8000) (h : Q (.dat (fr (a + b))) []) : gam P (k + 4) "plus" [.dat (fr a), .dat (fr b)] Q E := by
  refine R.opn Nd.nd (Has.mem (d := d_plus)) rfl ?_
  simp only [d_plus, List.map, List.replicate, List.length_cons, List.length_nil, List.cons_append, List.nil_append, Nat.reduceAdd, Nat.reduceSub]
  simp only [fr]
  have da := a.den_pos
  have db := b.den_pos
  (repeat walk_at "w1")
  refine R.mul_i (mulOk s t ha.1 (by simpa using hb.2) (by omega)) ?_
  (repeat walk_at "w1")
  refine R.mul_i (mulOk t s hb.1 (by simpa using ha.2) (by omega)) ?_
  (repeat walk_at "w1")
  refine R.mul_i (mulOk s t (by simpa using ha.2) (by simpa using hb.2) (by omega)) ?_
  (repeat walk_at "w1")
  refine w_ratio (Int.mul_pos (by omega) (by omega)) ?_ ?_
  · rw [Int.natAbs_mul, Int.natAbs_natCast, Int.natAbs_natCast]
    have : a.den * b.den < 2 ^ (s + t) := by
      rw [Nat.pow_add]
      exact Nat.mul_lt_mul'' ha.2 hb.2
    exact Nat.lt_of_lt_of_le ((Nat.log2_lt (Nat.ne_of_gt (Nat.mul_pos da db))).mpr this) (by omega)
  · (repeat walk_at "w1")
    rw [mkRat_add]
    exact h
theorem mkRat_sub (a b : Rat) : mkRat (a.num * (b.den : Int) - b.num * (a.den : Int)) ((a.den : Int) * (b.den : Int)).toNat = a - b := by
  rw [Rat.sub_def, Rat.normalize_eq_mkRat]
  congr 1
theorem w_minus {P : List FDef} [Nd P] [Has P d_minus] [Has P d_ratio] [Has P d_lowest] [Has P d_divisor_of] {k : Nat} {a b : Rat} {s t : Nat} {Q E} (ha : Sz s a) (hb : Sz t b) (hs : s + t ≤ 8000) (h : Q (.dat (fr (a - b))) []) : gam P (k + 4) "minus" [.dat (fr a), .dat (fr b)] Q E := by
  refine R.opn Nd.nd (Has.mem (d := d_minus)) rfl ?_
  simp only [d_minus, List.map, List.replicate, List.length_cons, List.length_nil, List.cons_append, List.nil_append, Nat.reduceAdd, Nat.reduceSub]
  simp only [fr]
  have da := a.den_pos
  have db := b.den_pos
  (repeat walk_at "w1")
  refine R.mul_i (mulOk s t ha.1 (by simpa using hb.2) (by omega)) ?_
  (repeat walk_at "w1")
  refine R.mul_i (mulOk t s hb.1 (by simpa using ha.2) (by omega)) ?_
  (repeat walk_at "w1")
  refine R.mul_i (mulOk s t (by simpa using ha.2) (by simpa using hb.2) (by omega)) ?_
  (repeat walk_at "w1")
  refine w_ratio (Int.mul_pos (by omega) (by omega)) ?_ ?_
  · rw [Int.natAbs_mul, Int.natAbs_natCast, Int.natAbs_natCast]
    have : a.den * b.den < 2 ^ (s + t) := by
      rw [Nat.pow_add]
      exact Nat.mul_lt_mul'' ha.2 hb.2
    exact Nat.lt_of_lt_of_le ((Nat.log2_lt (Nat.ne_of_gt (Nat.mul_pos da db))).mpr this) (by omega)
  · (repeat walk_at "w1")
    rw [mkRat_sub]
    exact h
theorem mkRat_mul (a b : Rat) : mkRat (a.num * b.num) ((a.den : Int) * (b.den : Int)).toNat = a * b := by
  rw [Rat.mul_def, Rat.normalize_eq_mkRat]
  congr 1
theorem w_times {P : List FDef} [Nd P] [Has P d_times] [Has P d_ratio] [Has P d_lowest] [Has P d_divisor_of] {k : Nat} {a b : Rat} {s t : Nat} {Q E} (ha : Sz s a) (hb : Sz t b) (hs : s + t ≤ 8000) (h : Q (.dat (fr (a * b))) []) : gam P (k + 4) "times" [.dat (fr a), .dat (fr b)] Q E := by
  refine R.opn Nd.nd (Has.mem (d := d_times)) rfl ?_
  simp only [d_times, List.map, List.replicate, List.length_cons, List.length_nil, List.cons_append, List.nil_append, Nat.reduceAdd, Nat.reduceSub]
  simp only [fr]
  have da := a.den_pos
  have db := b.den_pos
  (repeat walk_at "w1")
  refine R.mul_i (mulOk s t ha.1 hb.1 (by omega)) ?_
  (repeat walk_at "w1")
  refine R.mul_i (mulOk s t (by simpa using ha.2) (by simpa using hb.2) (by omega)) ?_
  (repeat walk_at "w1")
  refine w_ratio (Int.mul_pos (by omega) (by omega)) ?_ ?_
  · rw [Int.natAbs_mul, Int.natAbs_natCast, Int.natAbs_natCast]
    have : a.den * b.den < 2 ^ (s + t) := by
      rw [Nat.pow_add]
      exact Nat.mul_lt_mul'' ha.2 hb.2
    exact Nat.lt_of_lt_of_le ((Nat.log2_lt (Nat.ne_of_gt (Nat.mul_pos da db))).mpr this) (by omega)
  · (repeat walk_at "w1")
    rw [mkRat_mul]
    exact h
theorem sz_mk (n : Int) (d m : Nat) (hd : 0 < d) (h1 : n.natAbs < 2 ^ m) (h2 : d < 2 ^ m) : Sz m (mkRat n d) := by
  rw [← Rat.normalize_eq_mkRat (by omega : d ≠ 0), Rat.normalize_eq]
  refine ⟨?_, ?_⟩
  · refine Nat.lt_of_le_of_lt ?_ h1
    show (n / ((n.natAbs.gcd d : Nat) : Int)).natAbs ≤ _
    rw [Int.natAbs_ediv_of_dvd (Int.ofNat_dvd_left.mpr (Nat.gcd_dvd_left _ _)), Int.natAbs_natCast]
    exact Nat.div_le_self _ _
  · exact Nat.lt_of_le_of_lt (Nat.div_le_self _ _) h2
theorem sz_add {a b : Rat} {s t : Nat} (ha : Sz s a) (hb : Sz t b) : Sz (s + t + 1) (a + b) := by
  rw [← mkRat_add]
  have da := a.den_pos
  have db := b.den_pos
  have p1 : (a.num * (b.den : Int)).natAbs < 2 ^ (s + t) := by
    rw [Int.natAbs_mul, Nat.pow_add]
    exact Nat.mul_lt_mul'' ha.1 (by simpa using hb.2)
  have p2 : (b.num * (a.den : Int)).natAbs < 2 ^ (s + t) := by
    rw [Int.natAbs_mul, Nat.add_comm s t, Nat.pow_add]
    exact Nat.mul_lt_mul'' hb.1 (by simpa using ha.2)
  have p3 : a.den * b.den < 2 ^ (s + t) := by
    rw [Nat.pow_add]
    exact Nat.mul_lt_mul'' ha.2 hb.2
  have e : ((a.den : Int) * (b.den : Int)).toNat = a.den * b.den := by
    rw [← Int.natCast_mul, Int.toNat_natCast]
  rw [e]
  have q : 2 ^ (s + t + 1) = 2 ^ (s + t) + 2 ^ (s + t) := by rw [Nat.pow_succ]; omega
  refine sz_mk _ _ _ (Nat.mul_pos da db) ?_ (by omega)
  have := Int.natAbs_add_le (a.num * (b.den : Int)) (b.num * (a.den : Int))
  omega
theorem w_ratioN {P : List FDef} [Nd P] [Has P d_ratio] [Has P d_lowest] [Has P d_divisor_of] {k : Nat} {n l : Int} {Q E} (hl : l < 0) (hb : l.natAbs.log2 < 9000) (h : Q (.dat (fr (mkRat (-n) (-l).toNat))) []) : gam P (k + 3) "ratio" [.dat (.int n), .dat (.int l)] Q E := by
  refine R.opn Nd.nd (Has.mem (d := d_ratio)) rfl ?_
  simp only [d_ratio, List.map, List.replicate, List.length_cons, List.length_nil, List.cons_append, List.nil_append, Nat.reduceAdd, Nat.reduceSub]
  (repeat walk_at "w1")
  refine R.iteD (fun g => absurd g (by omega)) fun _ => ?_
  (repeat walk_at "w1")
  obtain ⟨g1, g2⟩ := gcd_div (-n) (l := -l) (by omega) (by rw [Int.natAbs_neg]; exact hb)
  refine w_lowest (ns := [-n, -l]) g1 g2 ?_
  (repeat walk_at "w1")
  obtain ⟨d, e⟩ := Int.eq_ofNat_of_zero_le (show 0 ≤ -l by omega)
  rw [e] at h ⊢
  have := low_fr (-n) d (by omega)
  simp only [List.map] at this
  rw [this]
  exact h
theorem over_pos (a b : Rat) (h : 0 < b.num) : mkRat (a.num * (b.den : Int)) ((a.den : Int) * b.num).toNat = a / b := by
  obtain ⟨n, e⟩ := Int.eq_ofNat_of_zero_le (Int.le_of_lt h)
  have hi : b⁻¹ = mkRat b.den n := by
    rw [Rat.inv_def, e, Rat.divInt_ofNat]
  have e2 : ((a.den : Int) * b.num).toNat = a.den * n := by
    rw [e, ← Int.natCast_mul, Int.toNat_natCast]
  rw [Rat.div_def, hi, e2]
  conv => rhs; rw [← Rat.mkRat_self a]
  rw [Rat.mkRat_mul_mkRat]
theorem w_over {P : List FDef} [Nd P] [Has P d_over] [Has P d_ratio] [Has P d_lowest] [Has P d_divisor_of] {k : Nat} {a b : Rat} {s t : Nat} {Q E} (ha : Sz s a) (hb : Sz t b) (hs : s + t ≤ 8000) (hp : 0 < b.num) (h : Q (.dat (fr (a / b))) []) : gam P (k + 4) "over" [.dat (fr a), .dat (fr b)] Q E := by
  refine R.opn Nd.nd (Has.mem (d := d_over)) rfl ?_
  simp only [d_over, List.map, List.replicate, List.length_cons, List.length_nil, List.cons_append, List.nil_append, Nat.reduceAdd, Nat.reduceSub]
  simp only [fr]
  have da := a.den_pos
  have db := b.den_pos
  (repeat walk_at "w1")
  refine R.mul_i (mulOk s t ha.1 (by simpa using hb.2) (by omega)) ?_
  (repeat walk_at "w1")
  refine R.mul_i (mulOk s t (by simpa using ha.2) hb.1 (by omega)) ?_
  (repeat walk_at "w1")
  refine w_ratio (Int.mul_pos (by omega) hp) ?_ ?_
  · rw [Int.natAbs_mul, Int.natAbs_natCast]
    have : a.den * b.num.natAbs < 2 ^ (s + t) := by
      rw [Nat.pow_add]
      exact Nat.mul_lt_mul'' ha.2 hb.1
    exact Nat.lt_of_lt_of_le ((Nat.log2_lt (Nat.ne_of_gt (Nat.mul_pos da (by omega)))).mpr this) (by omega)
  · (repeat walk_at "w1")
    rw [over_pos a b hp]
    exact h
def isWhole : D → Bool
  | .int _ => true
  | _ => false
theorem w_is_whole {P : List FDef} [Nd P] [Has P d_is_whole] {k : Nat} {d : D} {Q E} (h : Q (.dat (.bool (isWhole d))) []) : gam P (k + 1) "is_whole" [.dat d] Q E := by
  refine R.opn Nd.nd (Has.mem (d := d_is_whole)) rfl ?_
  simp only [d_is_whole, List.map, List.replicate, List.length_cons, List.length_nil, List.cons_append, List.nil_append, Nat.reduceAdd, Nat.reduceSub]
  (repeat walk_at "w1")
  cases d <;> exact h
theorem w_are_wholes {P : List FDef} [Nd P] [Has P d_are_wholes] [Has P d_is_whole] {k : Nat} {ns : List Int} {Q E} (h : Q (.dat (.bool true)) []) : gam P (k + 2) "are_wholes" [.dat (.tuple (ns.map .int)), .dat (.int ns.length)] Q E := by
  refine R.opn Nd.nd (Has.mem (d := d_are_wholes)) rfl ?_
  simp only [d_are_wholes, List.map, List.replicate, List.length_cons, List.length_nil, List.cons_append, List.nil_append, Nat.reduceAdd, Nat.reduceSub]
  (repeat walk_at "w1")
  refine R.ifT ?_
  (repeat walk_at "w1")
  rw [decide_eq_true (show ((ns.map PyData.int).length : Int) = (ns.length : Int) by simp)]
  (repeat walk_at "w1")
  refine ⟨fun i hi b xs e => ?_, ?_⟩
  · rcases List.mem_singleton.mp hi with rfl
    cases e
  simp only [wpo, wipeR]
  refine comp_map (fun _ => .bool true) rfl (fun _ => rfl) trivial _ _ (fun x hx nx hn => ?_) ?_
  · obtain ⟨n, _, rfl⟩ := List.mem_map.mp hx
    (repeat walk_at "w1")
    refine w_is_whole ?_
    (repeat walk_at "w1")
    exact hn
  · (repeat walk_at "w1")
    have e2 : [] ++ List.map (fun _ => PyData.bool true) (ns.map PyData.int) = (ns.map fun _ => true).map PyData.bool := by simp
    rw [e2]
    refine R.all_bs ?_
    have e3 : (ns.map fun _ => true).all id = true := by simp
    rw [e3]
    (repeat walk_at "w1")
    exact h
theorem w_is_ratio {P : List FDef} [Nd P] [Has P d_is_ratio] [Has P d_are_wholes] [Has P d_is_whole] [Has P d_divisor_of] {k : Nat} {q : Rat} {Q E} (h : Q (.dat (.bool true)) []) : gam P (k + 3) "is_ratio" [.dat (fr q)] Q E := by
  refine R.opn Nd.nd (Has.mem (d := d_is_ratio)) rfl ?_
  simp only [d_is_ratio, List.map, List.replicate, List.length_cons, List.length_nil, List.cons_append, List.nil_append, Nat.reduceAdd, Nat.reduceSub]
  simp only [fr]
  have dq := q.den_pos
  (repeat walk_at "w1")
  refine w_are_wholes (ns := [q.num, (q.den : Int)]) ?_
  (repeat walk_at "w1")
  refine R.iteD (fun _ => ?_) fun g => absurd (by omega) g
  (repeat walk_at "w1")
  refine w_divisor_of (ns := [q.num, (q.den : Int)]) (.inl rfl) ?_
  (repeat walk_at "w1")
  have e : (gcds 0 [q.num, (q.den : Int)] : Int) = 1 := by
    rw [gcds_two, Int.natAbs_natCast]
    have := q.reduced
    unfold Nat.Coprime at this
    rw [this]; rfl
  rw [decide_eq_true e]
  (repeat walk_at "w1")
  exact h
theorem w_is_below {P : List FDef} [Nd P] [Has P d_is_below] {k : Nat} {a b : Rat} {s t : Nat} {Q E} (ha : Sz s a) (hb : Sz t b) (hs : s + t ≤ 8000) (h : Q (.dat (.bool (decide (a < b)))) []) : gam P (k + 1) "is_below" [.dat (fr a), .dat (fr b)] Q E := by
  refine R.opn Nd.nd (Has.mem (d := d_is_below)) rfl ?_
  simp only [d_is_below, List.map, List.replicate, List.length_cons, List.length_nil, List.cons_append, List.nil_append, Nat.reduceAdd, Nat.reduceSub]
  simp only [fr]
  (repeat walk_at "w1")
  refine R.mul_i (mulOk s t ha.1 (by simpa using hb.2) (by omega)) ?_
  (repeat walk_at "w1")
  refine R.mul_i (mulOk t s hb.1 (by simpa using ha.2) (by omega)) ?_
  (repeat walk_at "w1")
  have e : decide (a.num * (b.den : Int) < b.num * (a.den : Int)) = decide (a < b) := decide_eq_decide.mpr (Rat.lt_iff a b).symm
  rw [e]
  exact h
def sumR (g : Rat) (qs : List Rat) : Rat := qs.foldl (· + ·) g
theorem w_total {P : List FDef} [Nd P] [Has P d_total] [Has P d_plus] [Has P d_ratio] [Has P d_lowest] [Has P d_divisor_of] {k : Nat} {qs : List Rat} {s : Nat} {Q E} (hq : ∀ q ∈ qs, Sz s q) (hs : (qs.length + 1) * (s + 1) + 1 ≤ 8000) (h : Q (.dat (fr (sumR 0 qs))) []) : gam P (k + 5) "total" [.dat (.tuple (qs.map fr))] Q E := by
  refine R.opn Nd.nd (Has.mem (d := d_total)) rfl ?_
  simp only [d_total, List.map, List.replicate, List.length_cons, List.length_nil, List.cons_append, List.nil_append, Nat.reduceAdd, Nat.reduceSub]
  (repeat walk_at "w1")
  have gen : ∀ (zs : List Rat) (g : Rat) (r : Nat) (x : Option Sl), R.okSl x = true → Sz r g → (∀ q ∈ zs, Sz s q) → r + (zs.length + 1) * (s + 1) ≤ 8000 → sumR g zs = sumR 0 qs → ∀ dd : DEn, (∀ x, R.okSl x = true → dd.nx [some (.dat (.tuple (qs.map fr))), some (.dat (fr (sumR 0 qs))), x]) →
      forL (asnN (.name 2)) (wpSs (gam P (k + 4)) [.asg (.name 1) (.call "plus" [.var 1, .var 2])] E) dd (zs.map fr) [some (.dat (.tuple (qs.map fr))), some (.dat (fr g)), x] := by
    intro zs
    induction zs with
    | nil =>
      intro g r x hx _ _ _ e dd hd
      simp only [List.map, forL]
      have : sumR g [] = g := rfl
      rw [← e, this] at hd
      exact hd x hx
    | cons z zs ih =>
      intro g r x hx hg hz hl e dd hd
      simp only [List.map, forL]
      refine R.an_name (R.nio rfl hx) ?_
      (repeat walk_at "w1")
      have sz := hz z List.mem_cons_self
      have e2 : (zs.length + 1 + 1) * (s + 1) = (zs.length + 1) * (s + 1) + (s + 1) := by rw [Nat.add_mul, Nat.one_mul]
      rw [List.length_cons, e2] at hl
      refine w_plus hg sz (by omega) ?_
      (repeat walk_at "w1")
      exact ih _ _ _ rfl (sz_add hg sz) (fun q h => hz q (List.mem_cons_of_mem _ h)) (by omega) (by rw [← e]; rfl) dd hd
  refine gen qs 0 1 none rfl ⟨by decide, by decide⟩ hq (by omega) rfl _ fun x hx => ?_
  (repeat walk_at "w1")
  exact h
theorem w_is_share {P : List FDef} [Nd P] [Has P d_is_share] [Has P d_is_ratio] [Has P d_are_wholes] [Has P d_is_whole] [Has P d_divisor_of] {k : Nat} {q : Rat} {Q E} (h0 : 0 ≤ q.num) (h1 : q.num ≤ q.den) (h : Q (.dat (.bool true)) []) : gam P (k + 4) "is_share" [.dat (fr q)] Q E := by
  refine R.opn Nd.nd (Has.mem (d := d_is_share)) rfl ?_
  simp only [d_is_share, List.map, List.replicate, List.length_cons, List.length_nil, List.cons_append, List.nil_append, Nat.reduceAdd, Nat.reduceSub]
  (repeat walk_at "w1")
  refine w_is_ratio ?_
  simp only [fr]
  (repeat walk_at "w1")
  refine R.iteD (fun _ => ?_) fun g => absurd h0 g
  (repeat walk_at "w1")
  rw [decide_eq_true h1]
  exact h
/-- a share of at most s bits -/
def Shr (s : Nat) (q : Rat) : Prop := 0 ≤ q.num ∧ q.num ≤ (q.den : Int) ∧ Sz s q
theorem fr_one : (.tuple [.int 1, .int 1] : D) = fr 1 := rfl
theorem w_is_unit {P : List FDef} [Nd P] [Has P d_is_unit] [Has P d_is_share] [Has P d_is_ratio] [Has P d_are_wholes] [Has P d_is_whole] [Has P d_divisor_of] [Has P d_is_below] [Has P d_total] [Has P d_plus] [Has P d_ratio] [Has P d_lowest]
    {k : Nat} {qs : List Rat} {s t : Nat} {Q E} (hq : ∀ q ∈ qs, Shr s q) (hs : (qs.length + 1) * (s + 1) + 1 ≤ 4000) (ht : Sz t (sumR 0 qs)) (ht2 : t ≤ 4000) (h1 : sumR 0 qs ≤ 1) (h : Q (.dat (.bool true)) []) : gam P (k + 6) "is_unit" [.dat (.tuple (qs.map fr)), .dat (.int qs.length)] Q E := by
  refine R.opn Nd.nd (Has.mem (d := d_is_unit)) rfl ?_
  simp only [d_is_unit, List.map, List.replicate, List.length_cons, List.length_nil, List.cons_append, List.nil_append, Nat.reduceAdd, Nat.reduceSub]
  (repeat walk_at "w1")
  refine R.ifF ?_
  (repeat walk_at "w1")
  rw [decide_eq_true (show ((qs.map fr).length : Int) = (qs.length : Int) by simp)]
  (repeat walk_at "w1")
  refine R.ifF ?_
  (repeat walk_at "w1")
  refine ⟨fun i hi b xs e => ?_, ?_⟩
  · rcases List.mem_singleton.mp hi with rfl
    cases e
  simp only [wpo, wipeR]
  refine comp_map (fun _ => .bool true) rfl (fun _ => rfl) trivial _ _ (fun x hx nx hn => ?_) ?_
  · obtain ⟨q, hm, rfl⟩ := List.mem_map.mp hx
    (repeat walk_at "w1")
    refine w_is_share (hq q hm).1 (hq q hm).2.1 ?_
    (repeat walk_at "w1")
    exact hn
  · (repeat walk_at "w1")
    have e2 : [] ++ List.map (fun _ => PyData.bool true) (qs.map fr) = (qs.map fun _ => true).map PyData.bool := by simp
    rw [e2]
    refine R.all_bs ?_
    have e3 : (qs.map fun _ => true).all id = true := by simp
    rw [e3]
    (repeat walk_at "w1")
    refine R.ifF ?_
    (repeat walk_at "w1")
    refine w_total (fun q hm => (hq q hm).2.2) (by omega) ?_
    (repeat walk_at "w1")
    rw [fr_one]
    refine w_is_below (s := 1) (t := t) ⟨by decide, by decide⟩ ht (by omega) ?_
    have e4 : decide ((1 : Rat) < sumR 0 qs) = false := decide_eq_false (Rat.not_lt.mpr h1)
    rw [e4]
    (repeat walk_at "w1")
    exact h
end Lib
namespace Lib
open PySem DL L2
local macro_rules | `(tactic| walk_at "w1") => `(tactic| (first
  | (with_reducible refine R.lit ?_) | (with_reducible refine R.con ?_)
  | ((with_reducible refine' R.var ?g ?h); (case g => exact rfl))
  | ((with_reducible refine' R.varO ?g ?h); (case g => exact rfl))
  | (with_reducible refine R.op2 ?_) | (with_reducible refine R.cmp ?_) | (with_reducible refine R.idx ?_) | (with_reducible refine R.slc ?_) | (with_reducible refine R.oN ?_) | (with_reducible refine R.oS ?_)
  | (with_reducible refine R.tcmp ?_) | (with_reducible refine R.tnot ?_) | (with_reducible refine R.tand ?_) | (with_reducible refine R.tor ?_) | (with_reducible refine R.tcall ?_) | (with_reducible refine R.tbi ?_) | (with_reducible refine R.tisN ?_) | (with_reducible refine R.tnotN ?_) | (with_reducible refine R.tchain ?_) | (with_reducible refine R.tvar ?_) | (with_reducible refine R.tcallK ?_)
  | (with_reducible refine R.isN ?_) | (with_reducible refine R.notN ?_) | (with_reducible refine R.chain ?_) | (with_reducible refine R.neg ?_) | (with_reducible refine R.not ?_) | (with_reducible refine R.and ?_) | (with_reducible refine R.or ?_) | (with_reducible refine R.ife ?_)
  | (with_reducible refine R.tup ?_) | (with_reducible refine R.lst ?_) | (with_reducible refine R.call ?_) | (with_reducible refine R.callK ?_) | (with_reducible refine R.callIo ?_) | (with_reducible refine R.bi ?_) | (with_reducible refine R.comp ?_) | (with_reducible refine R.index ?_) | (with_reducible refine R.repL ?_) | (with_reducible refine R.listR ?_)
  | (with_reducible refine R.an ?_) | (with_reducible refine R.ac ?_) | (with_reducible refine R.en ?_) | (with_reducible refine R.ec ?_) | (with_reducible refine R.ed ?_) | (with_reducible refine R.eo ?_)
  | ((with_reducible refine' R.erd ?g ?h); (case g => exact rfl)) | ((with_reducible refine' R.ero ?g ?h); (case g => exact rfl))
  | ((with_reducible refine' R.w1 ?g ?h); (case g => exact rfl)) | ((with_reducible refine' R.w2 ?g ?g' ?h); (case g => exact rfl); (case g' => exact rfl)) | ((with_reducible refine' R.ws ?g ?h); (case g => exact rfl))
  | (with_reducible refine R.fval rfl ?_) | (with_reducible refine R.f_l ?_) | (with_reducible refine R.f_t ?_) | (with_reducible refine R.ival rfl ?_) | (with_reducible refine R.i_l ?_) | (with_reducible refine R.i_t ?_) | (with_reducible refine R.i_o ?_) | ((with_reducible refine' R.i_r ?g ?h); (case g => exact rfl))
  | (with_reducible refine R.irange ?_) | (with_reducible refine R.frange ?_) | (with_reducible refine R.ienum ?_) | (with_reducible refine R.fenum ?_) | (with_reducible refine R.izip ?_) | (with_reducible refine R.fzip ?_) | (with_reducible refine R.irev ?_) | (with_reducible refine R.frev ?_) | ((with_reducible refine' R.zip_at ?g ?g' ?h); (case g => exact rfl); (case g' => exact rfl)) | (with_reducible refine R.eq_i ?_) | (with_reducible refine R.ne_i ?_) | (with_reducible refine R.sretN ?_)
  | (with_reducible refine R.sn ?_) | (with_reducible refine R.sc ?_) | (with_reducible refine R.sasg ?_) | (with_reducible refine R.spar ?_) | (with_reducible refine R.sexpr ?_) | (with_reducible refine R.sapp ?_) | (with_reducible refine R.sext ?_) | (with_reducible refine R.sret ?_) | (with_reducible refine R.site ?_) | (with_reducible refine R.sfor ?_)
  | ((with_reducible refine R.nd_ ?n ?h); (case n => first | exact R.nio rfl rfl | exact R.nio rfl (DL.NoOw.ok (by assumption)))) | ((with_reducible refine R.no_ ?n ?h); (case n => first | exact R.nio rfl rfl | exact R.nio rfl (DL.NoOw.ok (by assumption)))) | ((with_reducible refine R.nr_ ?n ?h); (case n => first | exact R.nio rfl rfl | exact R.nio rfl (DL.NoOw.ok (by assumption))))
  | ((with_reducible refine' R.an_name ?n ?h); (case n => first | assumption | exact R.nio rfl rfl | exact R.nio rfl (DL.NoOw.ok (by assumption)))) | ((with_reducible refine' R.an_two ?n ?m ?h); (case n => first | assumption | exact R.nio rfl rfl | exact R.nio rfl (DL.NoOw.ok (by assumption))); (case m => first | assumption | exact R.nio rfl rfl | exact R.nio rfl (DL.NoOw.ok (by assumption)))) | ((with_reducible refine' R.an_three ?n ?m ?o ?h); (case n => first | assumption | exact R.nio rfl rfl | exact R.nio rfl (DL.NoOw.ok (by assumption))); (case m => first | assumption | exact R.nio rfl rfl | exact R.nio rfl (DL.NoOw.ok (by assumption))); (case o => first | assumption | exact R.nio rfl rfl | exact R.nio rfl (DL.NoOw.ok (by assumption)))) | (with_reducible refine R.tt rfl ?_) | (with_reducible refine R.tn ?_) | (with_reducible refine R.tc ?_) | (with_reducible refine R.subd ?_) | ((with_reducible refine' R.own_and ?g ?h); (case g => exact rfl)) | ((with_reducible refine' R.put_at ?g ?g' ?h); (case g => exact rfl); (case g' => exact rfl)) | ((with_reducible refine' R.io_ref ?g ?h); (case g => exact rfl)) | (with_reducible refine R.io_own ?_) | (with_reducible refine R.one_1 ?_) | (with_reducible refine R.setn ?_) | (with_reducible refine R.setd ?_) | (with_reducible refine R.seto ?_) | (with_reducible refine R.setr ?_)
  | ((with_reducible refine' R.find ?g ?h); (case g => exact rfl)) | ((with_reducible refine' R.fino ?g ?h); (case g => exact rfl)) | ((with_reducible refine' R.finr ?g ?g' ?h); (case g => exact rfl); (case g' => exact rfl)) | ((with_reducible refine' R.find' ?g ?g' ?h); (case g => exact rfl); (case g' => exact rfl))
  | (with_reducible refine R.ifT ?_) | (with_reducible refine R.ifF ?_)
  | ((with_reducible refine' R.pow_i ?g ?h); (case g => decide)) | ((with_reducible refine' R.mul_i ?g ?h); (case g => exact mulOk 60 60 (by omega) (by omega) (by decide))) | ((with_reducible refine' R.fdiv_i ?g ?h); (case g => exact divOk (by omega) (by omega))) | ((with_reducible refine' R.mod_i ?g ?h); (case g => omega))
  | (with_reducible refine R.add_i ?_) | (with_reducible refine R.sub_i ?_) | (with_reducible refine R.lt_i ?_) | (with_reducible refine R.le_i ?_) | (with_reducible refine R.gt_i ?_) | (with_reducible refine R.ge_i ?_)
  | ((with_reducible refine' R.idx_l ?g ?h); (case g => exact rfl)) | ((with_reducible refine' R.idx_t ?g ?h); (case g => exact rfl)) | (with_reducible refine R.slc_l ?_) | (with_reducible refine R.slc_t ?_)
  | (with_reducible refine R.len_l ?_) | (with_reducible refine R.len_t ?_) | (with_reducible refine R.tuple_l ?_) | (with_reducible refine R.tuple_t ?_) | (with_reducible refine R.list_l ?_) | (with_reducible refine R.list_t ?_) | (with_reducible refine R.abs_i ?_) | (with_reducible refine R.int_i ?_) | (with_reducible refine R.gcd_i ?_)
  | (with_reducible refine R.isint ?_) | (with_reducible refine R.isbool ?_) | (with_reducible refine R.istuple ?_) | (with_reducible refine R.islist ?_)
  | (with_reducible refine R.sum_is ?_) | (with_reducible refine R.all_bs ?_) | ((with_reducible refine R.any_bs ?_))); (try dsimp only [List.map, List.set, Int.reduceToNat, Bool.not_true, Bool.not_false, DL.restR, DL.gt, DL.wipeR]))
/-- what the tap holds -/
def Tap (m : Nat) (xs : List D) : Prop := ∃ a b c : Int, xs = [.int a, .int b, .int c] ∧ 0 ≤ a ∧ 0 ≤ b ∧ b < 2147483549 ∧ 0 ≤ c ∧ c ≤ m
theorem Tap.mono {m n : Nat} {xs : List D} (h : Tap m xs) (k : m ≤ n) : Tap n xs := by
  obtain ⟨a, b, c, e, h1, h2, h3, h4, h5⟩ := h
  exact ⟨a, b, c, e, h1, h2, h3, h4, by omega⟩
theorem w_dropT {P : List FDef} [Nd P] [Has P d__law_drop] {k m : Nat} {xs : List D} {t : Int} {Q E} (hx : Tap m xs) (hm : m < 1000000) (ht : 0 < t) (ht2 : t < 1000000000)
    (h : ∀ (ys : List D) (r : Nat), Tap (m + 1) ys → (r : Int) < t → Q (.dat (.int r)) [ys]) : gam P (k + 1) "_law_drop" [.own true xs, .dat (.int t)] Q E := by
  obtain ⟨a, b, c, rfl, h1, h2, h3, h4, h5⟩ := hx
  refine w_drop h1 h2 h3 h4 (by omega) ht ht2 fun a' b' c' r g1 g2 g3 g4 g5 g6 g7 => ?_
  obtain ⟨r, rfl⟩ := Int.eq_ofNat_of_zero_le g6
  exact h _ r ⟨a', b', c', rfl, g1, g2, g3, g4, by omega⟩ g7
theorem atI_mem {xs : List D} {r : Nat} (h : r < xs.length) : ∃ x, x ∈ xs ∧ atI xs (r : Int) = some x := ⟨xs[r], List.getElem_mem h, atI_nat (by simp [h])⟩
theorem w_of {P : List FDef} [Nd P] [Has P d__law_of] [Has P d__law_drop] {k m : Nat} {xs ys : List D} {d : D} {Q E} (hx : Tap m xs) (hm : m < 1000000) (hd : d = .list ys ∨ d = .tuple ys) (hy : ys ≠ []) (hl : ys.length < 1000000)
    (h : ∀ (zs : List D) (x : D), Tap (m + 1) zs → x ∈ ys → Q (.dat x) [zs]) : gam P (k + 2) "_law_of" [.own true xs, .dat d] Q E := by
  have hp : 0 < ys.length := List.length_pos_iff.mpr hy
  refine R.opn Nd.nd (Has.mem (d := d__law_of)) rfl ?_
  simp only [d__law_of, List.map, List.replicate, List.length_cons, List.length_nil, List.cons_append, List.nil_append, Nat.reduceAdd, Nat.reduceSub]
  rcases hd with rfl | rfl
  · (repeat walk_at "w1")
    refine w_dropT hx hm (by omega) (by omega) fun zs r hz hr => ?_
    (repeat walk_at "w1")
    obtain ⟨x, h1, h2⟩ := atI_mem (xs := ys) (r := r) (by omega)
    refine R.idx_l h2 ?_
    (repeat walk_at "w1")
    exact h _ _ hz h1
  · (repeat walk_at "w1")
    refine w_dropT hx hm (by omega) (by omega) fun zs r hz hr => ?_
    (repeat walk_at "w1")
    obtain ⟨x, h1, h2⟩ := atI_mem (xs := ys) (r := r) (by omega)
    refine R.idx_t h2 ?_
    (repeat walk_at "w1")
    exact h _ _ hz h1
theorem w_gcd {P : List FDef} [Nd P] [Has P d__law_gcd] {k : Nat} {a b : Int} {Q E} (h : Q (.dat (.int ((Nat.gcd a.natAbs b.natAbs : Nat) : Int))) []) : gam P (k + 1) "_law_gcd" [.dat (.int a), .dat (.int b)] Q E := by
  refine R.opn Nd.nd (Has.mem (d := d__law_gcd)) rfl ?_
  simp only [d__law_gcd, List.map, List.replicate, List.length_cons, List.length_nil, List.cons_append, List.nil_append, Nat.reduceAdd, Nat.reduceSub]
  (repeat walk_at "w1")
  have ea : (if a < 0 then -a else a) = (a.natAbs : Int) := by split <;> omega
  have eb : (if b < 0 then -b else b) = (b.natAbs : Int) := by split <;> omega
  rw [ea, eb]
  refine R.swhile (fun m ρ => ∃ x y : Nat, m = y ∧ ρ = [some (.dat (.int x)), some (.dat (.int y))] ∧ Nat.gcd x y = Nat.gcd a.natAbs b.natAbs) b.natAbs ⟨_, _, rfl, rfl, rfl⟩ ?_
  rintro y ρ ⟨x, _, rfl, rfl, e⟩
  (repeat walk_at "w1")
  refine R.iteD (fun g => ?_) fun g => ?_
  · (repeat walk_at "w1")
    have em : (x : Int) % (y : Int) = ((x % y : Nat) : Int) := by omega
    rw [em]
    have hy : 0 < y := by omega
    exact ⟨x % y, Nat.mod_lt _ hy, y, x % y, rfl, rfl, by rw [← e, Nat.gcd_comm x y, Nat.gcd_rec y x, Nat.gcd_comm]⟩
  · (repeat walk_at "w1")
    have : y = 0 := by omega
    subst this
    rw [Nat.gcd_zero_right] at e
    rw [e]
    exact h
theorem log_gcd (n : Int) {l : Nat} (hl : 0 < l) (hb : l < 2 ^ 9000) : 0 < Nat.gcd n.natAbs l ∧ DivOk (Nat.gcd n.natAbs l : Int) := by
  have h0 : 0 < Nat.gcd n.natAbs l := Nat.gcd_pos_of_pos_right _ hl
  refine ⟨h0, by omega, ?_⟩
  have le : Nat.gcd n.natAbs l ≤ l := Nat.gcd_le_right _ hl
  rw [Int.natAbs_natCast]
  exact (Nat.log2_lt (by omega)).mpr (Nat.lt_of_le_of_lt le hb)
theorem w_thin {P : List FDef} [Nd P] [Has P d__law_thin] [Has P d__law_gcd] {k : Nat} {n : Int} {l : Nat} {Q E} (hl : 0 < l) (hb : l < 2 ^ 9000) (h : Q (.dat (fr (mkRat n l))) []) : gam P (k + 2) "_law_thin" [.dat (.tuple [.int n, .int l])] Q E := by
  obtain ⟨g0, gd⟩ := log_gcd n hl hb
  have e := low_fr n l hl
  rw [gcds_two, Int.natAbs_natCast] at e
  simp only [List.map] at e
  refine R.opn Nd.nd (Has.mem (d := d__law_thin)) rfl ?_
  simp only [d__law_thin, List.map, List.replicate, List.length_cons, List.length_nil, List.cons_append, List.nil_append, Nat.reduceAdd, Nat.reduceSub]
  (repeat walk_at "w1")
  refine R.an_name (R.nio rfl rfl) ?_
  (repeat walk_at "w1")
  refine R.iteN (fun _ => ?_) fun z => absurd z (by decide)
  (repeat walk_at "w1")
  refine w_gcd ?_
  (repeat walk_at "w1")
  refine R.an_name (R.nio rfl rfl) ?_
  (repeat walk_at "w1")
  have e0 : Nat.gcd (0 : Int).natAbs n.natAbs = n.natAbs := Nat.gcd_zero_left _
  rw [e0]
  have fin : wpSs (gam P (k + 1)) [.ret (.ife (.cmp .gt (.var 1) (.lit (.int 1))) (.bi .tuple [.comp (.op2 .fdiv (.var 2) (.var 1)) (.name 2) (.var 0) none [2]]) (.bi .tuple [.var 0]))] E
      { nx := DL.fin [.dat (.tuple [.int n, .int l])] Q (.dat .none), rt := DL.fin [.dat (.tuple [.int n, .int l])] Q, bk := fun _ => False, ct := fun _ => False } [some (.dat (.tuple [.int n, .int l])), some (.dat (.int (Nat.gcd n.natAbs l : Nat))), some (.dat (.int l))] := by
    (repeat walk_at "w1")
    refine R.iteD (fun g1 => ?_) fun g1 => ?_
    · (repeat walk_at "w1")
      refine ⟨fun i hi b xs e => ?_, ?_⟩
      · rcases List.mem_singleton.mp hi with rfl
        cases e
      simp only [wpo, wipeR]
      refine comp_l (α := Int) PyData.int (fun z => .int (z / (Nat.gcd n.natAbs l : Nat))) rfl (fun _ => rfl) trivial [n, (l : Int)] [] (fun x hx nx hn => ?_) ?_
      · (repeat walk_at "w1")
        refine R.fdiv_i gd ?_
        (repeat walk_at "w1")
        exact hn
      · (repeat walk_at "w1")
        simp only [List.nil_append, List.map]
        rw [e]
        exact h
    · (repeat walk_at "w1")
      have g2 : Nat.gcd n.natAbs l = 1 := by omega
      rw [g2] at e
      simp only [Int.natCast_one, Int.ediv_one] at e
      rw [e]
      exact h
  refine R.iteN (fun g => ?_) fun g => ?_
  · (repeat walk_at "w1")
    refine w_gcd ?_
    (repeat walk_at "w1")
    simp only [Int.natAbs_natCast]
    exact fin
  · (repeat walk_at "w1")
    have e1 : Nat.gcd n.natAbs l = 1 := by
      have : n.natAbs = 1 := by omega
      rw [this, Nat.gcd_one_left]
    rw [e1] at fin
    exact fin
theorem w_frac {P : List FDef} [Nd P] [Has P d__law_frac] [Has P d__law_thin] [Has P d__law_gcd] {k : Nat} {n : Int} {l : Nat} {Q E} (hl : 0 < l) (hb : l < 2 ^ 9000) (h : Q (.dat (fr (mkRat n l))) []) : gam P (k + 3) "_law_frac" [.dat (.int n), .dat (.int l)] Q E := by
  refine R.opn Nd.nd (Has.mem (d := d__law_frac)) rfl ?_
  simp only [d__law_frac, List.map, List.replicate, List.length_cons, List.length_nil, List.cons_append, List.nil_append, Nat.reduceAdd, Nat.reduceSub]
  (repeat walk_at "w1")
  refine R.iteD (fun _ => ?_) fun g => absurd (by omega) g
  (repeat walk_at "w1")
  refine w_thin hl hb ?_
  (repeat walk_at "w1")
  exact h
theorem w_fracN {P : List FDef} [Nd P] [Has P d__law_frac] [Has P d__law_thin] [Has P d__law_gcd] {k : Nat} {n : Int} {l : Nat} {Q E} (hl : 0 < l) (hb : l < 2 ^ 9000) (h : Q (.dat (fr (mkRat (-n) l))) []) : gam P (k + 3) "_law_frac" [.dat (.int n), .dat (.int (-(l : Int)))] Q E := by
  refine R.opn Nd.nd (Has.mem (d := d__law_frac)) rfl ?_
  simp only [d__law_frac, List.map, List.replicate, List.length_cons, List.length_nil, List.cons_append, List.nil_append, Nat.reduceAdd, Nat.reduceSub]
  (repeat walk_at "w1")
  refine R.iteD (fun g => absurd g (by omega)) fun _ => ?_
  (repeat walk_at "w1")
  have e1 : 0 - n = -n := by omega
  have e2 : 0 - -(l : Int) = l := by omega
  rw [e1, e2]
  refine w_thin hl hb ?_
  (repeat walk_at "w1")
  exact h
theorem den_mul_lt {a b : Rat} {s t : Nat} (ha : Sz s a) (hb : Sz t b) (h : s + t ≤ 9000) : 0 < a.den * b.den ∧ a.den * b.den < 2 ^ 9000 := by
  refine ⟨Nat.mul_pos a.den_pos b.den_pos, ?_⟩
  have : a.den * b.den < 2 ^ (s + t) := by
    rw [Nat.pow_add]
    exact Nat.mul_lt_mul'' ha.2 hb.2
  exact Nat.lt_of_lt_of_le this (Nat.pow_le_pow_right (by omega) h)
theorem wl_add {P : List FDef} [Nd P] [Has P d__law_add] [Has P d__law_frac] [Has P d__law_thin] [Has P d__law_gcd] {k : Nat} {a b : Rat} {s t : Nat} {Q E} (ha : Sz s a) (hb : Sz t b) (hs : s + t ≤ 8000) (h : Q (.dat (fr (a + b))) []) : gam P (k + 4) "_law_add" [.dat (fr a), .dat (fr b)] Q E := by
  refine R.opn Nd.nd (Has.mem (d := d__law_add)) rfl ?_
  simp only [d__law_add, List.map, List.replicate, List.length_cons, List.length_nil, List.cons_append, List.nil_append, Nat.reduceAdd, Nat.reduceSub]
  simp only [fr]
  obtain ⟨d1, d2⟩ := den_mul_lt ha hb (by omega)
  (repeat walk_at "w1")
  refine R.mul_i (mulOk s t ha.1 (by simpa using hb.2) (by omega)) ?_
  (repeat walk_at "w1")
  refine R.mul_i (mulOk t s hb.1 (by simpa using ha.2) (by omega)) ?_
  (repeat walk_at "w1")
  refine R.mul_i (mulOk s t (by simpa using ha.2) (by simpa using hb.2) (by omega)) ?_
  (repeat walk_at "w1")
  rw [← Int.natCast_mul]
  refine w_frac d1 d2 ?_
  (repeat walk_at "w1")
  have e := mkRat_add a b
  rw [← Int.natCast_mul, Int.toNat_natCast] at e
  rw [e]; exact h
theorem wl_less {P : List FDef} [Nd P] [Has P d__law_less] [Has P d__law_frac] [Has P d__law_thin] [Has P d__law_gcd] {k : Nat} {a b : Rat} {s t : Nat} {Q E} (ha : Sz s a) (hb : Sz t b) (hs : s + t ≤ 8000) (h : Q (.dat (fr (a - b))) []) : gam P (k + 4) "_law_less" [.dat (fr a), .dat (fr b)] Q E := by
  refine R.opn Nd.nd (Has.mem (d := d__law_less)) rfl ?_
  simp only [d__law_less, List.map, List.replicate, List.length_cons, List.length_nil, List.cons_append, List.nil_append, Nat.reduceAdd, Nat.reduceSub]
  simp only [fr]
  obtain ⟨d1, d2⟩ := den_mul_lt ha hb (by omega)
  (repeat walk_at "w1")
  refine R.mul_i (mulOk s t ha.1 (by simpa using hb.2) (by omega)) ?_
  (repeat walk_at "w1")
  refine R.mul_i (mulOk t s hb.1 (by simpa using ha.2) (by omega)) ?_
  (repeat walk_at "w1")
  refine R.mul_i (mulOk s t (by simpa using ha.2) (by simpa using hb.2) (by omega)) ?_
  (repeat walk_at "w1")
  rw [← Int.natCast_mul]
  refine w_frac d1 d2 ?_
  (repeat walk_at "w1")
  have e := mkRat_sub a b
  rw [← Int.natCast_mul, Int.toNat_natCast] at e
  rw [e]; exact h
theorem wl_times {P : List FDef} [Nd P] [Has P d__law_times] [Has P d__law_frac] [Has P d__law_thin] [Has P d__law_gcd] {k : Nat} {a b : Rat} {s t : Nat} {Q E} (ha : Sz s a) (hb : Sz t b) (hs : s + t ≤ 8000) (h : Q (.dat (fr (a * b))) []) : gam P (k + 4) "_law_times" [.dat (fr a), .dat (fr b)] Q E := by
  refine R.opn Nd.nd (Has.mem (d := d__law_times)) rfl ?_
  simp only [d__law_times, List.map, List.replicate, List.length_cons, List.length_nil, List.cons_append, List.nil_append, Nat.reduceAdd, Nat.reduceSub]
  simp only [fr]
  obtain ⟨d1, d2⟩ := den_mul_lt ha hb (by omega)
  (repeat walk_at "w1")
  refine R.mul_i (mulOk s t ha.1 hb.1 (by omega)) ?_
  (repeat walk_at "w1")
  refine R.mul_i (mulOk s t (by simpa using ha.2) (by simpa using hb.2) (by omega)) ?_
  (repeat walk_at "w1")
  rw [← Int.natCast_mul]
  refine w_frac d1 d2 ?_
  (repeat walk_at "w1")
  have e := mkRat_mul a b
  rw [← Int.natCast_mul, Int.toNat_natCast] at e
  rw [e]; exact h
end Lib
namespace Lib
open PySem DL L2
local macro_rules | `(tactic| walk_at "w1") => `(tactic| (first
  | (with_reducible refine R.lit ?_) | (with_reducible refine R.con ?_)
  | ((with_reducible refine' R.var ?g ?h); (case g => exact rfl))
  | ((with_reducible refine' R.varO ?g ?h); (case g => exact rfl))
  | (with_reducible refine R.op2 ?_) | (with_reducible refine R.cmp ?_) | (with_reducible refine R.idx ?_) | (with_reducible refine R.slc ?_) | (with_reducible refine R.oN ?_) | (with_reducible refine R.oS ?_)
  | (with_reducible refine R.tcmp ?_) | (with_reducible refine R.tnot ?_) | (with_reducible refine R.tand ?_) | (with_reducible refine R.tor ?_) | (with_reducible refine R.tcall ?_) | (with_reducible refine R.tbi ?_) | (with_reducible refine R.tisN ?_) | (with_reducible refine R.tnotN ?_) | (with_reducible refine R.tchain ?_) | (with_reducible refine R.tvar ?_) | (with_reducible refine R.tcallK ?_)
  | (with_reducible refine R.isN ?_) | (with_reducible refine R.notN ?_) | (with_reducible refine R.chain ?_) | (with_reducible refine R.neg ?_) | (with_reducible refine R.not ?_) | (with_reducible refine R.and ?_) | (with_reducible refine R.or ?_) | (with_reducible refine R.ife ?_)
  | (with_reducible refine R.tup ?_) | (with_reducible refine R.lst ?_) | (with_reducible refine R.call ?_) | (with_reducible refine R.callK ?_) | (with_reducible refine R.callIo ?_) | (with_reducible refine R.bi ?_) | (with_reducible refine R.comp ?_) | (with_reducible refine R.index ?_) | (with_reducible refine R.repL ?_) | (with_reducible refine R.listR ?_)
  | (with_reducible refine R.an ?_) | (with_reducible refine R.ac ?_) | (with_reducible refine R.en ?_) | (with_reducible refine R.ec ?_) | (with_reducible refine R.ed ?_) | (with_reducible refine R.eo ?_)
  | ((with_reducible refine' R.erd ?g ?h); (case g => exact rfl)) | ((with_reducible refine' R.ero ?g ?h); (case g => exact rfl))
  | ((with_reducible refine' R.w1 ?g ?h); (case g => exact rfl)) | ((with_reducible refine' R.w2 ?g ?g' ?h); (case g => exact rfl); (case g' => exact rfl)) | ((with_reducible refine' R.ws ?g ?h); (case g => exact rfl))
  | (with_reducible refine R.fval rfl ?_) | (with_reducible refine R.f_l ?_) | (with_reducible refine R.f_t ?_) | (with_reducible refine R.ival rfl ?_) | (with_reducible refine R.i_l ?_) | (with_reducible refine R.i_t ?_) | (with_reducible refine R.i_o ?_) | ((with_reducible refine' R.i_r ?g ?h); (case g => exact rfl))
  | (with_reducible refine R.irange ?_) | (with_reducible refine R.frange ?_) | (with_reducible refine R.ienum ?_) | (with_reducible refine R.fenum ?_) | (with_reducible refine R.izip ?_) | (with_reducible refine R.fzip ?_) | (with_reducible refine R.irev ?_) | (with_reducible refine R.frev ?_) | ((with_reducible refine' R.zip_at ?g ?g' ?h); (case g => exact rfl); (case g' => exact rfl)) | (with_reducible refine R.eq_i ?_) | (with_reducible refine R.ne_i ?_) | (with_reducible refine R.sretN ?_)
  | (with_reducible refine R.sn ?_) | (with_reducible refine R.sc ?_) | (with_reducible refine R.sasg ?_) | (with_reducible refine R.spar ?_) | (with_reducible refine R.sexpr ?_) | (with_reducible refine R.sapp ?_) | (with_reducible refine R.sext ?_) | (with_reducible refine R.sret ?_) | (with_reducible refine R.site ?_) | (with_reducible refine R.sfor ?_)
  | ((with_reducible refine R.nd_ ?n ?h); (case n => first | exact R.nio rfl rfl | exact R.nio rfl (DL.NoOw.ok (by assumption)))) | ((with_reducible refine R.no_ ?n ?h); (case n => first | exact R.nio rfl rfl | exact R.nio rfl (DL.NoOw.ok (by assumption)))) | ((with_reducible refine R.nr_ ?n ?h); (case n => first | exact R.nio rfl rfl | exact R.nio rfl (DL.NoOw.ok (by assumption))))
  | ((with_reducible refine' R.an_name ?n ?h); (case n => first | assumption | exact R.nio rfl rfl | exact R.nio rfl (DL.NoOw.ok (by assumption)))) | ((with_reducible refine' R.an_two ?n ?m ?h); (case n => first | assumption | exact R.nio rfl rfl | exact R.nio rfl (DL.NoOw.ok (by assumption))); (case m => first | assumption | exact R.nio rfl rfl | exact R.nio rfl (DL.NoOw.ok (by assumption)))) | ((with_reducible refine' R.an_three ?n ?m ?o ?h); (case n => first | assumption | exact R.nio rfl rfl | exact R.nio rfl (DL.NoOw.ok (by assumption))); (case m => first | assumption | exact R.nio rfl rfl | exact R.nio rfl (DL.NoOw.ok (by assumption))); (case o => first | assumption | exact R.nio rfl rfl | exact R.nio rfl (DL.NoOw.ok (by assumption)))) | (with_reducible refine R.tt rfl ?_) | (with_reducible refine R.tn ?_) | (with_reducible refine R.tc ?_) | (with_reducible refine R.subd ?_) | ((with_reducible refine' R.own_and ?g ?h); (case g => exact rfl)) | ((with_reducible refine' R.put_at ?g ?g' ?h); (case g => exact rfl); (case g' => exact rfl)) | ((with_reducible refine' R.io_ref ?g ?h); (case g => exact rfl)) | (with_reducible refine R.io_own ?_) | (with_reducible refine R.one_1 ?_) | (with_reducible refine R.setn ?_) | (with_reducible refine R.setd ?_) | (with_reducible refine R.seto ?_) | (with_reducible refine R.setr ?_)
  | ((with_reducible refine' R.find ?g ?h); (case g => exact rfl)) | ((with_reducible refine' R.fino ?g ?h); (case g => exact rfl)) | ((with_reducible refine' R.finr ?g ?g' ?h); (case g => exact rfl); (case g' => exact rfl)) | ((with_reducible refine' R.find' ?g ?g' ?h); (case g => exact rfl); (case g' => exact rfl))
  | (with_reducible refine R.ifT ?_) | (with_reducible refine R.ifF ?_)
  | ((with_reducible refine' R.pow_i ?g ?h); (case g => decide)) | ((with_reducible refine' R.mul_i ?g ?h); (case g => exact mulOk 60 60 (by omega) (by omega) (by decide))) | ((with_reducible refine' R.fdiv_i ?g ?h); (case g => exact divOk (by omega) (by omega))) | ((with_reducible refine' R.mod_i ?g ?h); (case g => omega))
  | (with_reducible refine R.add_i ?_) | (with_reducible refine R.sub_i ?_) | (with_reducible refine R.lt_i ?_) | (with_reducible refine R.le_i ?_) | (with_reducible refine R.gt_i ?_) | (with_reducible refine R.ge_i ?_)
  | ((with_reducible refine' R.idx_l ?g ?h); (case g => exact rfl)) | ((with_reducible refine' R.idx_t ?g ?h); (case g => exact rfl)) | (with_reducible refine R.slc_l ?_) | (with_reducible refine R.slc_t ?_)
  | (with_reducible refine R.len_l ?_) | (with_reducible refine R.len_t ?_) | (with_reducible refine R.tuple_l ?_) | (with_reducible refine R.tuple_t ?_) | (with_reducible refine R.list_l ?_) | (with_reducible refine R.list_t ?_) | (with_reducible refine R.abs_i ?_) | (with_reducible refine R.int_i ?_) | (with_reducible refine R.gcd_i ?_)
  | (with_reducible refine R.isint ?_) | (with_reducible refine R.isbool ?_) | (with_reducible refine R.istuple ?_) | (with_reducible refine R.islist ?_)
  | (with_reducible refine R.sum_is ?_) | (with_reducible refine R.all_bs ?_) | ((with_reducible refine R.any_bs ?_))); (try dsimp only [List.map, List.set, Int.reduceToNat, Bool.not_true, Bool.not_false, DL.restR, DL.gt, DL.wipeR]))
theorem Sz.mono {s t : Nat} {q : Rat} (h : Sz s q) (k : s ≤ t) : Sz t q := ⟨Nat.lt_of_lt_of_le h.1 (Nat.pow_le_pow_right (by omega) k), Nat.lt_of_lt_of_le h.2 (Nat.pow_le_pow_right (by omega) k)⟩
theorem sz_zero : Sz 1 0 := ⟨by decide, by decide⟩
theorem sz_one : Sz 1 1 := ⟨by decide, by decide⟩
theorem sz_neg {a : Rat} {s : Nat} (h : Sz s a) : Sz s (-a) := ⟨by rw [Rat.neg_num, Int.natAbs_neg]; exact h.1, by rw [Rat.neg_den]; exact h.2⟩
theorem sz_sub {a b : Rat} {s t : Nat} (ha : Sz s a) (hb : Sz t b) : Sz (s + t + 1) (a - b) := by
  rw [Rat.sub_eq_add_neg]; exact sz_add ha (sz_neg hb)
theorem sz_mul {a b : Rat} {s t : Nat} (ha : Sz s a) (hb : Sz t b) : Sz (s + t) (a * b) := by
  rw [← mkRat_mul]
  have e : ((a.den : Int) * (b.den : Int)).toNat = a.den * b.den := by rw [← Int.natCast_mul, Int.toNat_natCast]
  rw [e]
  refine sz_mk _ _ _ (Nat.mul_pos a.den_pos b.den_pos) ?_ ?_
  · rw [Int.natAbs_mul, Nat.pow_add]; exact Nat.mul_lt_mul'' ha.1 hb.1
  · rw [Nat.pow_add]; exact Nat.mul_lt_mul'' ha.2 hb.2
theorem sz_inv {a : Rat} {s : Nat} (h : Sz s a) (h0 : a ≠ 0) : Sz s a⁻¹ := by
  have n0 : a.num ≠ 0 := fun z => h0 (Rat.num_eq_zero.mp z)
  refine ⟨?_, ?_⟩
  · rw [Rat.num_inv, Int.natAbs_mul, Int.natAbs_sign_of_ne_zero n0]; simpa using h.2
  · rw [Rat.den_inv]
    split
    · exact absurd ‹_› n0
    · exact h.1
theorem sz_div {a b : Rat} {s t : Nat} (ha : Sz s a) (hb : Sz t b) (h0 : b ≠ 0) : Sz (s + t) (a / b) := by
  rw [Rat.div_def]; exact sz_mul ha (sz_inv hb h0)
theorem sz_frac {q : Rat} {n d : Int} {m : Nat} (hd : d ≠ 0) (h1 : n.natAbs < 2 ^ m) (h2 : d.natAbs < 2 ^ m) (e : q = (n : Rat) / (d : Rat)) : Sz m q := by
  have key : ∀ (n : Int) (d : Nat), 0 < d → (n : Rat) / ((d : Int) : Rat) = mkRat n d := fun n d hd => by
    rw [Rat.mkRat_eq_div]; rfl
  rcases Int.lt_or_gt_of_ne hd with g | g
  · obtain ⟨k, hk⟩ := Int.eq_ofNat_of_zero_le (show 0 ≤ -d by omega)
    have e2 : (n : Rat) / (d : Rat) = ((-n : Int) : Rat) / (((k : Nat) : Int) : Rat) := by
      rw [← hk, Rat.intCast_neg, Rat.intCast_neg]; grind
    rw [e, e2, key _ _ (by omega)]
    exact sz_mk _ _ _ (by omega) (by rw [Int.natAbs_neg]; exact h1) (by omega)
  · obtain ⟨k, rfl⟩ := Int.eq_ofNat_of_zero_le (show 0 ≤ d by omega)
    rw [e, key _ _ (by omega)]
    exact sz_mk _ _ _ (by omega) h1 (by simpa using h2)
theorem over_neg (a b : Rat) (h : b.num < 0) : mkRat (-(a.num * (b.den : Int))) (-((a.den : Int) * b.num)).toNat = a / b := by
  have := over_pos (-a) (-b) (by rw [Rat.neg_num]; omega)
  rw [Rat.neg_num, Rat.neg_den, Rat.neg_den, Rat.neg_num, Int.neg_mul, Int.mul_neg] at this
  rw [this]; grind
theorem num_ne {b : Rat} (h : b ≠ 0) : b.num ≠ 0 := fun z => h (Rat.num_eq_zero.mp z)
theorem mul_log {x y s t : Nat} (hx : x < 2 ^ s) (hy : y < 2 ^ t) (h : s + t ≤ 9000) (p : 0 < x * y) : (x * y).log2 < 9000 := by
  refine (Nat.log2_lt (by omega)).mpr (Nat.lt_of_lt_of_le (m := 2 ^ (s + t)) ?_ (Nat.pow_le_pow_right (by omega) h))
  rw [Nat.pow_add]; exact Nat.mul_lt_mul'' hx hy
theorem w_overG {P : List FDef} [Nd P] [Has P d_over] [Has P d_ratio] [Has P d_lowest] [Has P d_divisor_of] {k : Nat} {a b : Rat} {s t : Nat} {Q E} (ha : Sz s a) (hb : Sz t b) (hs : s + t ≤ 8000) (h0 : b ≠ 0) (h : Q (.dat (fr (a / b))) []) : gam P (k + 4) "over" [.dat (fr a), .dat (fr b)] Q E := by
  have n0 := num_ne h0
  rcases Int.lt_or_gt_of_ne n0 with g | g
  · have da := a.den_pos
    have neg : (a.den : Int) * b.num < 0 := by
      have := Int.mul_pos (show (0 : Int) < a.den by omega) (show 0 < -b.num by omega)
      rw [Int.mul_neg] at this; omega
    have pn : 0 < a.den * b.num.natAbs := Nat.mul_pos da (by omega)
    refine R.opn Nd.nd (Has.mem (d := d_over)) rfl ?_
    simp only [d_over, List.map, List.replicate, List.length_cons, List.length_nil, List.cons_append, List.nil_append, Nat.reduceAdd, Nat.reduceSub]
    simp only [fr]
    (repeat walk_at "w1")
    refine R.mul_i (mulOk s t ha.1 (by simpa using hb.2) (by omega)) ?_
    (repeat walk_at "w1")
    refine R.mul_i (mulOk s t (by simpa using ha.2) hb.1 (by omega)) ?_
    (repeat walk_at "w1")
    refine w_ratioN neg ?_ ?_
    · rw [Int.natAbs_mul, Int.natAbs_natCast]
      exact mul_log ha.2 hb.1 (by omega) pn
    · (repeat walk_at "w1")
      rw [over_neg a b g]; exact h
  · exact w_over ha hb hs g h
theorem wl_over {P : List FDef} [Nd P] [Has P d__law_over] [Has P d__law_frac] [Has P d__law_thin] [Has P d__law_gcd] {k : Nat} {a b : Rat} {s t : Nat} {Q E} (ha : Sz s a) (hb : Sz t b) (hs : s + t ≤ 8000) (h0 : b ≠ 0) (h : Q (.dat (fr (a / b))) []) : gam P (k + 4) "_law_over" [.dat (fr a), .dat (fr b)] Q E := by
  have n0 := num_ne h0
  have da := a.den_pos
  have pn : 0 < a.den * b.num.natAbs := Nat.mul_pos da (by omega)
  have lt : a.den * b.num.natAbs < 2 ^ 9000 := Nat.lt_of_lt_of_le (m := 2 ^ (s + t)) (by rw [Nat.pow_add]; exact Nat.mul_lt_mul'' ha.2 hb.1) (Nat.pow_le_pow_right (by omega) (by omega))
  refine R.opn Nd.nd (Has.mem (d := d__law_over)) rfl ?_
  simp only [d__law_over, List.map, List.replicate, List.length_cons, List.length_nil, List.cons_append, List.nil_append, Nat.reduceAdd, Nat.reduceSub]
  simp only [fr]
  (repeat walk_at "w1")
  refine R.mul_i (mulOk s t ha.1 (by simpa using hb.2) (by omega)) ?_
  (repeat walk_at "w1")
  refine R.mul_i (mulOk s t (by simpa using ha.2) hb.1 (by omega)) ?_
  (repeat walk_at "w1")
  rcases Int.lt_or_gt_of_ne n0 with g | g
  · have e : (a.den : Int) * b.num = -((a.den * b.num.natAbs : Nat) : Int) := by
      have : b.num = -(b.num.natAbs : Int) := by omega
      rw [this, Int.natCast_mul, Int.mul_neg]; simp
    have e2 := over_neg a b g
    rw [e, Int.neg_neg, Int.toNat_natCast] at e2
    rw [e]
    refine w_fracN pn lt ?_
    (repeat walk_at "w1")
    rw [e2]; exact h
  · have e : (a.den : Int) * b.num = ((a.den * b.num.natAbs : Nat) : Int) := by
      have : b.num = (b.num.natAbs : Int) := by omega
      rw [this, Int.natCast_mul]; simp
    have e2 := over_pos a b g
    rw [e, Int.toNat_natCast] at e2
    rw [e]
    refine w_frac pn lt ?_
    (repeat walk_at "w1")
    rw [e2]; exact h
/-- the side of two fractions -/
def side (a b : Rat) : Int := if b < a then 1 else if a < b then -1 else 0
theorem wl_side {P : List FDef} [Nd P] [Has P d__law_side] {k : Nat} {a b : Rat} {s t : Nat} {Q E} (ha : Sz s a) (hb : Sz t b) (hs : s + t ≤ 8000) (h : Q (.dat (.int (side a b))) []) : gam P (k + 1) "_law_side" [.dat (fr a), .dat (fr b)] Q E := by
  refine R.opn Nd.nd (Has.mem (d := d__law_side)) rfl ?_
  simp only [d__law_side, List.map, List.replicate, List.length_cons, List.length_nil, List.cons_append, List.nil_append, Nat.reduceAdd, Nat.reduceSub]
  simp only [fr]
  (repeat walk_at "w1")
  refine R.mul_i (mulOk s t ha.1 (by simpa using hb.2) (by omega)) ?_
  (repeat walk_at "w1")
  refine R.mul_i (mulOk t s hb.1 (by simpa using ha.2) (by omega)) ?_
  (repeat walk_at "w1")
  unfold side at h
  refine R.iteD (fun g => ?_) fun g => ?_
  · (repeat walk_at "w1")
    rw [if_pos ((Rat.lt_iff b a).mpr (by omega))] at h
    exact h
  · (repeat walk_at "w1")
    rw [if_neg (fun z => g (by have := (Rat.lt_iff b a).mp z; omega))] at h
    refine R.iteD (fun g => ?_) fun g => ?_
    · (repeat walk_at "w1")
      rw [if_pos ((Rat.lt_iff a b).mpr (by omega))] at h
      exact h
    · (repeat walk_at "w1")
      rw [if_neg (fun z => g (by have := (Rat.lt_iff a b).mp z; omega))] at h
      exact h
/-! sums -/
theorem sz_sumR {s : Nat} : ∀ {qs : List Rat} {g : Rat} {r : Nat}, Sz r g → (∀ q ∈ qs, Sz s q) → Sz (r + qs.length * (s + 1)) (sumR g qs)
  | [], g, r, hg, _ => by simpa [sumR] using hg
  | q :: qs, g, r, hg, h => by
    have := sz_sumR (qs := qs) (sz_add hg (h q List.mem_cons_self)) fun x hx => h x (List.mem_cons_of_mem _ hx)
    have e : r + s + 1 + qs.length * (s + 1) = r + (q :: qs).length * (s + 1) := by rw [List.length_cons, Nat.add_mul]; omega
    rw [e] at this
    exact this
theorem sumR_append (g : Rat) (qs rs : List Rat) : sumR g (qs ++ rs) = sumR (sumR g qs) rs := by simp [sumR]
theorem sumR_tab (n : Nat) (f : Nat → Rat) : sumR 0 ((List.range n).map f) = Mx.sm n f := by
  induction n with
  | zero => rfl
  | succ n ih =>
    rw [List.range_succ, List.map_append, sumR_append, ih]
    rfl
theorem w_totalG {P : List FDef} [Nd P] [Has P d_total] [Has P d_plus] [Has P d_ratio] [Has P d_lowest] [Has P d_divisor_of] {k : Nat} {d : D} {qs : List Rat} {s : Nat} {Q E} (hd : d = .tuple (qs.map fr) ∨ d = .list (qs.map fr)) (hq : ∀ q ∈ qs, Sz s q) (hs : (qs.length + 1) * (s + 1) + 1 ≤ 8000) (h : Q (.dat (fr (sumR 0 qs))) []) : gam P (k + 5) "total" [.dat d] Q E := by
  refine R.opn Nd.nd (Has.mem (d := d_total)) rfl ?_
  simp only [d_total, List.map, List.replicate, List.length_cons, List.length_nil, List.cons_append, List.nil_append, Nat.reduceAdd, Nat.reduceSub]
  (repeat walk_at "w1")
  have gen : ∀ dd : DEn, (∀ x, R.okSl x = true → dd.nx [some (.dat d), some (.dat (fr (sumR 0 qs))), x]) → forL (asnN (.name 2)) (wpSs (gam P (k + 4)) [.asg (.name 1) (.call "plus" [.var 1, .var 2])] E) dd (qs.map fr) [some (.dat d), some (.dat (fr 0)), none] := by
    intro dd hd
    refine for_l (σ := Rat × Nat × Option Sl) fr (fun s => [some (.dat d), some (.dat (fr s.1)), s.2.2]) (fun zs st => R.okSl st.2.2 = true ∧ Sz st.2.1 st.1 ∧ (∀ q ∈ zs, Sz s q) ∧ st.2.1 + (zs.length + 1) * (s + 1) ≤ 8000 ∧ sumR st.1 zs = sumR 0 qs) ?_ ?_ qs (0, 1, none) ⟨rfl, sz_zero, hq, by show 1 + _ ≤ _; omega, rfl⟩
    · rintro z zs ⟨g, r, x⟩ nx ⟨h1, h2, h3, h4, h5⟩ hn
      refine R.an_name (R.nio rfl h1) ?_
      (repeat walk_at "w1")
      have sz := h3 z List.mem_cons_self
      have e2 : (zs.length + 1 + 1) * (s + 1) = (zs.length + 1) * (s + 1) + (s + 1) := by rw [Nat.add_mul, Nat.one_mul]
      rw [List.length_cons, e2] at h4
      simp only at h2 h4
      refine w_plus h2 sz (by omega) ?_
      (repeat walk_at "w1")
      exact hn (g + z, r + s + 1, _) ⟨rfl, sz_add h2 sz, fun q h => h3 q (List.mem_cons_of_mem _ h), by simp only; omega, by rw [← h5]; rfl⟩
    · rintro ⟨g, r, x⟩ ⟨h1, h2, h3, h4, h5⟩
      have : g = sumR 0 qs := h5
      subst this
      exact hd x h1
  rcases hd with rfl | rfl
  · (repeat walk_at "w1")
    refine gen _ fun x hx => ?_
    (repeat walk_at "w1")
    exact h
  · (repeat walk_at "w1")
    refine gen _ fun x hx => ?_
    (repeat walk_at "w1")
    exact h
theorem wl_total {P : List FDef} [Nd P] [Has P d__law_total] [Has P d__law_add] [Has P d__law_frac] [Has P d__law_thin] [Has P d__law_gcd] {k : Nat} {d : D} {qs : List Rat} {s : Nat} {Q E} (hd : d = .tuple (qs.map fr) ∨ d = .list (qs.map fr)) (hq : ∀ q ∈ qs, Sz s q) (hs : (qs.length + 1) * (s + 1) + 1 ≤ 8000) (h : Q (.dat (fr (sumR 0 qs))) []) : gam P (k + 5) "_law_total" [.dat d] Q E := by
  refine R.opn Nd.nd (Has.mem (d := d__law_total)) rfl ?_
  simp only [d__law_total, List.map, List.replicate, List.length_cons, List.length_nil, List.cons_append, List.nil_append, Nat.reduceAdd, Nat.reduceSub]
  (repeat walk_at "w1")
  have gen : ∀ dd : DEn, (∀ x, R.okSl x = true → dd.nx [some (.dat d), some (.dat (fr (sumR 0 qs))), x]) → forL (asnN (.name 2)) (wpSs (gam P (k + 4)) [.asg (.name 1) (.call "_law_add" [.var 1, .var 2])] E) dd (qs.map fr) [some (.dat d), some (.dat (fr 0)), none] := by
    intro dd hd
    refine for_l (σ := Rat × Nat × Option Sl) fr (fun s => [some (.dat d), some (.dat (fr s.1)), s.2.2]) (fun zs st => R.okSl st.2.2 = true ∧ Sz st.2.1 st.1 ∧ (∀ q ∈ zs, Sz s q) ∧ st.2.1 + (zs.length + 1) * (s + 1) ≤ 8000 ∧ sumR st.1 zs = sumR 0 qs) ?_ ?_ qs (0, 1, none) ⟨rfl, sz_zero, hq, by show 1 + _ ≤ _; omega, rfl⟩
    · rintro z zs ⟨g, r, x⟩ nx ⟨h1, h2, h3, h4, h5⟩ hn
      refine R.an_name (R.nio rfl h1) ?_
      (repeat walk_at "w1")
      have sz := h3 z List.mem_cons_self
      have e2 : (zs.length + 1 + 1) * (s + 1) = (zs.length + 1) * (s + 1) + (s + 1) := by rw [Nat.add_mul, Nat.one_mul]
      rw [List.length_cons, e2] at h4
      simp only at h2 h4
      refine wl_add h2 sz (by omega) ?_
      (repeat walk_at "w1")
      exact hn (g + z, r + s + 1, _) ⟨rfl, sz_add h2 sz, fun q h => h3 q (List.mem_cons_of_mem _ h), by simp only; omega, by rw [← h5]; rfl⟩
    · rintro ⟨g, r, x⟩ ⟨h1, h2, h3, h4, h5⟩
      have : g = sumR 0 qs := h5
      subst this
      exact hd x h1
  rcases hd with rfl | rfl
  · (repeat walk_at "w1")
    refine gen _ fun x hx => ?_
    (repeat walk_at "w1")
    exact h
  · (repeat walk_at "w1")
    refine gen _ fun x hx => ?_
    (repeat walk_at "w1")
    exact h
end Lib
namespace Lib
open PySem DL L2
local macro_rules | `(tactic| walk_at "w1") => `(tactic| (first
  | (with_reducible refine R.lit ?_) | (with_reducible refine R.con ?_)
  | ((with_reducible refine' R.var ?g ?h); (case g => exact rfl))
  | ((with_reducible refine' R.varO ?g ?h); (case g => exact rfl))
  | (with_reducible refine R.op2 ?_) | (with_reducible refine R.cmp ?_) | (with_reducible refine R.idx ?_) | (with_reducible refine R.slc ?_) | (with_reducible refine R.oN ?_) | (with_reducible refine R.oS ?_)
  | (with_reducible refine R.tcmp ?_) | (with_reducible refine R.tnot ?_) | (with_reducible refine R.tand ?_) | (with_reducible refine R.tor ?_) | (with_reducible refine R.tcall ?_) | (with_reducible refine R.tbi ?_) | (with_reducible refine R.tisN ?_) | (with_reducible refine R.tnotN ?_) | (with_reducible refine R.tchain ?_) | (with_reducible refine R.tvar ?_) | (with_reducible refine R.tcallK ?_)
  | (with_reducible refine R.isN ?_) | (with_reducible refine R.notN ?_) | (with_reducible refine R.chain ?_) | (with_reducible refine R.neg ?_) | (with_reducible refine R.not ?_) | (with_reducible refine R.and ?_) | (with_reducible refine R.or ?_) | (with_reducible refine R.ife ?_)
  | (with_reducible refine R.tup ?_) | (with_reducible refine R.lst ?_) | (with_reducible refine R.call ?_) | (with_reducible refine R.callK ?_) | (with_reducible refine R.callIo ?_) | (with_reducible refine R.bi ?_) | (with_reducible refine R.comp ?_) | (with_reducible refine R.index ?_) | (with_reducible refine R.repL ?_) | (with_reducible refine R.listR ?_)
  | (with_reducible refine R.an ?_) | (with_reducible refine R.ac ?_) | (with_reducible refine R.en ?_) | (with_reducible refine R.ec ?_) | (with_reducible refine R.ed ?_) | (with_reducible refine R.eo ?_)
  | ((with_reducible refine' R.erd ?g ?h); (case g => exact rfl)) | ((with_reducible refine' R.ero ?g ?h); (case g => exact rfl))
  | ((with_reducible refine' R.w1 ?g ?h); (case g => exact rfl)) | ((with_reducible refine' R.w2 ?g ?g' ?h); (case g => exact rfl); (case g' => exact rfl)) | ((with_reducible refine' R.ws ?g ?h); (case g => exact rfl))
  | (with_reducible refine R.fval rfl ?_) | (with_reducible refine R.f_l ?_) | (with_reducible refine R.f_t ?_) | (with_reducible refine R.ival rfl ?_) | (with_reducible refine R.i_l ?_) | (with_reducible refine R.i_t ?_) | (with_reducible refine R.i_o ?_) | ((with_reducible refine' R.i_r ?g ?h); (case g => exact rfl))
  | (with_reducible refine R.irange ?_) | (with_reducible refine R.frange ?_) | (with_reducible refine R.ienum ?_) | (with_reducible refine R.fenum ?_) | (with_reducible refine R.izip ?_) | (with_reducible refine R.fzip ?_) | (with_reducible refine R.irev ?_) | (with_reducible refine R.frev ?_) | ((with_reducible refine' R.zip_at ?g ?g' ?h); (case g => exact rfl); (case g' => exact rfl)) | (with_reducible refine R.eq_i ?_) | (with_reducible refine R.ne_i ?_) | (with_reducible refine R.sretN ?_)
  | (with_reducible refine R.sn ?_) | (with_reducible refine R.sc ?_) | (with_reducible refine R.sasg ?_) | (with_reducible refine R.spar ?_) | (with_reducible refine R.sexpr ?_) | (with_reducible refine R.sapp ?_) | (with_reducible refine R.sext ?_) | (with_reducible refine R.sret ?_) | (with_reducible refine R.site ?_) | (with_reducible refine R.sfor ?_)
  | ((with_reducible refine R.nd_ ?n ?h); (case n => first | exact R.nio rfl rfl | exact R.nio rfl (DL.NoOw.ok (by assumption)))) | ((with_reducible refine R.no_ ?n ?h); (case n => first | exact R.nio rfl rfl | exact R.nio rfl (DL.NoOw.ok (by assumption)))) | ((with_reducible refine R.nr_ ?n ?h); (case n => first | exact R.nio rfl rfl | exact R.nio rfl (DL.NoOw.ok (by assumption))))
  | ((with_reducible refine' R.an_name ?n ?h); (case n => first | assumption | exact R.nio rfl rfl | exact R.nio rfl (DL.NoOw.ok (by assumption)))) | ((with_reducible refine' R.an_two ?n ?m ?h); (case n => first | assumption | exact R.nio rfl rfl | exact R.nio rfl (DL.NoOw.ok (by assumption))); (case m => first | assumption | exact R.nio rfl rfl | exact R.nio rfl (DL.NoOw.ok (by assumption)))) | ((with_reducible refine' R.an_three ?n ?m ?o ?h); (case n => first | assumption | exact R.nio rfl rfl | exact R.nio rfl (DL.NoOw.ok (by assumption))); (case m => first | assumption | exact R.nio rfl rfl | exact R.nio rfl (DL.NoOw.ok (by assumption))); (case o => first | assumption | exact R.nio rfl rfl | exact R.nio rfl (DL.NoOw.ok (by assumption)))) | (with_reducible refine R.tt rfl ?_) | (with_reducible refine R.tn ?_) | (with_reducible refine R.tc ?_) | (with_reducible refine R.subd ?_) | ((with_reducible refine' R.own_and ?g ?h); (case g => exact rfl)) | ((with_reducible refine' R.put_at ?g ?g' ?h); (case g => exact rfl); (case g' => exact rfl)) | ((with_reducible refine' R.io_ref ?g ?h); (case g => exact rfl)) | (with_reducible refine R.io_own ?_) | (with_reducible refine R.one_1 ?_) | (with_reducible refine R.setn ?_) | (with_reducible refine R.setd ?_) | (with_reducible refine R.seto ?_) | (with_reducible refine R.setr ?_)
  | ((with_reducible refine' R.find ?g ?h); (case g => exact rfl)) | ((with_reducible refine' R.fino ?g ?h); (case g => exact rfl)) | ((with_reducible refine' R.finr ?g ?g' ?h); (case g => exact rfl); (case g' => exact rfl)) | ((with_reducible refine' R.find' ?g ?g' ?h); (case g => exact rfl); (case g' => exact rfl))
  | (with_reducible refine R.ifT ?_) | (with_reducible refine R.ifF ?_)
  | ((with_reducible refine' R.pow_i ?g ?h); (case g => decide)) | ((with_reducible refine' R.mul_i ?g ?h); (case g => exact mulOk 60 60 (by omega) (by omega) (by decide))) | ((with_reducible refine' R.fdiv_i ?g ?h); (case g => exact divOk (by omega) (by omega))) | ((with_reducible refine' R.mod_i ?g ?h); (case g => omega))
  | (with_reducible refine R.add_i ?_) | (with_reducible refine R.sub_i ?_) | (with_reducible refine R.lt_i ?_) | (with_reducible refine R.le_i ?_) | (with_reducible refine R.gt_i ?_) | (with_reducible refine R.ge_i ?_)
  | ((with_reducible refine' R.idx_l ?g ?h); (case g => exact rfl)) | ((with_reducible refine' R.idx_t ?g ?h); (case g => exact rfl)) | (with_reducible refine R.slc_l ?_) | (with_reducible refine R.slc_t ?_)
  | (with_reducible refine R.len_l ?_) | (with_reducible refine R.len_t ?_) | (with_reducible refine R.tuple_l ?_) | (with_reducible refine R.tuple_t ?_) | (with_reducible refine R.list_l ?_) | (with_reducible refine R.list_t ?_) | (with_reducible refine R.abs_i ?_) | (with_reducible refine R.int_i ?_) | (with_reducible refine R.gcd_i ?_)
  | (with_reducible refine R.isint ?_) | (with_reducible refine R.isbool ?_) | (with_reducible refine R.istuple ?_) | (with_reducible refine R.islist ?_)
  | (with_reducible refine R.sum_is ?_) | (with_reducible refine R.all_bs ?_) | ((with_reducible refine R.any_bs ?_))); (try dsimp only [List.map, List.set, Int.reduceToNat, Bool.not_true, Bool.not_false, DL.restR, DL.gt, DL.wipeR]))
theorem any_l {α : Type} {l : List α} {f : α → Bool} {k : KR} (h : k (.dat (.bool (l.any f)))) : biD .any [.list (l.map fun x => .bool (f x))] k := by
  have : l.map (fun x => PyData.bool (f x)) = (l.map f).map .bool := by simp
  rw [this]
  refine R.any_bs ?_
  simpa [List.any_map] using h
theorem all_l {α : Type} {l : List α} {f : α → Bool} {k : KR} (h : k (.dat (.bool (l.all f)))) : biD .all [.list (l.map fun x => .bool (f x))] k := by
  have : l.map (fun x => PyData.bool (f x)) = (l.map f).map .bool := by simp
  rw [this]
  refine R.all_bs ?_
  simpa [List.all_map] using h
theorem fr_inj {a b : Rat} : fr a = fr b ↔ a = b := by
  constructor
  · intro h
    simp only [fr, PyData.tuple.injEq, List.cons.injEq, PyData.int.injEq, and_true] at h
    exact Rat.ext h.1 (by exact_mod_cast h.2)
  · rintro rfl; rfl
theorem fr_shp (a : Rat) : shp (fr a) := by unfold shp SeqAt.shaped fr; simp [PyData.canLay0, PyData.canLayAll0, PyData.depth, PyData.depthAll]
theorem ne_fr {a b : Rat} {kb : Bool → Prop} (h : kb (!decide (a = b))) : cmpD .ne (fr a) (fr b) kb := R.ne_tame (c := decide (a = b)) (fr_shp a) (fr_shp b) rfl rfl (by rw [fr_inj, decide_eq_true_iff]) h
theorem eq_fr {a b : Rat} {kb : Bool → Prop} (h : kb (decide (a = b))) : cmpD .eq (fr a) (fr b) kb := R.eq_tame (c := decide (a = b)) (fr_shp a) (fr_shp b) rfl rfl (by rw [fr_inj, decide_eq_true_iff]) h
theorem shp_nats (l : List Nat) : shp (.list (l.map fun (j : Nat) => PyData.int (j : Int))) := by
  have h := sh_list (e := 0) (L := 0) (xs := []) (by simp)
  unfold shp SeqAt.shaped
  have a : ∀ l : List Nat, PyData.canLayAll0 (l.map fun (j : Nat) => PyData.int (j : Int)) = true := by
    intro l; induction l with
    | nil => rfl
    | cons x l ih => simp [PyData.canLayAll0, PyData.canLay0, ih]
  have b : ∀ l : List Nat, PyData.depthAll (l.map fun (j : Nat) => PyData.int (j : Int)) = 0 := by
    intro l; induction l with
    | nil => rfl
    | cons x l ih => simp [PyData.depthAll, PyData.depth, ih]
  simp [PyData.canLay0, PyData.depth, a, b]
theorem inD_nat (j : Nat) (l : List Nat) : inD (.int (j : Int)) (l.map fun (j : Nat) => PyData.int (j : Int)) = l.contains j := by
  unfold inD
  rw [List.any_map, Bool.eq_iff_iff, List.any_eq_true]
  simp only [Function.comp_def, PyData.eqv, beq_iff_eq, List.contains_eq_mem, decide_eq_true_eq]
  constructor
  · rintro ⟨x, hx, e⟩
    have : x = j := by omega
    exact this ▸ hx
  · intro h; exact ⟨j, h, rfl⟩
theorem isin_nat {j : Nat} {l : List Nat} {kb : Bool → Prop} (h : kb (l.contains j)) : cmpD .isin (.int (j : Int)) (.list (l.map fun (j : Nat) => PyData.int (j : Int))) kb := ⟨shp_int _, shp_nats l, by rw [inD_nat]; exact h⟩
theorem notin_nat {j : Nat} {l : List Nat} {kb : Bool → Prop} (h : kb (!l.contains j)) : cmpD .notin (.int (j : Int)) (.list (l.map fun (j : Nat) => PyData.int (j : Int))) kb := ⟨shp_int _, shp_nats l, by rw [inD_nat]; exact h⟩
/-! ### sheets -/
def frT (n : Nat) (f : Nat → Rat) : D := .tuple (tab n fun j => fr (f j))
def sheetD (n : Nat) (S : Nat → Nat → Rat) : D := .tuple (tab n fun i => frT n (S i))
theorem frT_map (n : Nat) (f : Nat → Rat) : (tab n fun j => fr (f j)) = ((List.range n).map f).map fr := by simp [tab]
structure Sheet (s n : Nat) (S : Nat → Nat → Rat) : Prop where
  one : 0 < n
  most : n ≤ 5
  sub : Mx.Sub n S
  sz : ∀ i j, i < n → j < n → Sz s (S i j)
  bits : s ≤ 600
theorem Sheet.le1 {s n : Nat} {S : Nat → Nat → Rat} (h : Sheet s n S) {i j : Nat} (hi : i < n) (hj : j < n) : S i j ≤ 1 := by
  have := Mx.sm_le_each (n := n) (f := S i) (fun j hj => h.sub.nn i j hi hj) j hj
  exact Rat.le_trans this (h.sub.row i hi)
theorem Sheet.szRow {s n : Nat} {S : Nat → Nat → Rat} (h : Sheet s n S) {i : Nat} (hi : i < n) : Sz (1 + n * (s + 1)) (Mx.sm n (S i)) := by
  have := sz_sumR (s := s) (qs := (List.range n).map (S i)) sz_zero (fun q hq => by
    obtain ⟨j, hj, rfl⟩ := List.mem_map.mp hq
    exact h.sz i j hi (List.mem_range.mp hj))
  rw [sumR_tab] at this
  simpa using this
theorem le1_num {q : Rat} (h : q ≤ 1) : q.num ≤ (q.den : Int) := by
  have := (Rat.le_iff q 1).mp h
  simpa using this
theorem Sheet.shr {s n : Nat} {S : Nat → Nat → Rat} (h : Sheet s n S) {i j : Nat} (hi : i < n) (hj : j < n) : Shr s (S i j) :=
  ⟨Rat.num_nonneg.mpr (h.sub.nn i j hi hj), le1_num (h.le1 hi hj), h.sz i j hi hj⟩
theorem mul5 {n s : Nat} (h : n ≤ 5) : n * (s + 1) ≤ 5 * (s + 1) := Nat.mul_le_mul_right _ h
theorem w_check_sheet {P : List FDef} [Nd P] [Has P d_check_sheet] [Has P d_is_unit] [Has P d_is_share] [Has P d_is_ratio] [Has P d_are_wholes] [Has P d_is_whole] [Has P d_divisor_of] [Has P d_is_below] [Has P d_total] [Has P d_plus] [Has P d_ratio] [Has P d_lowest] {k s n : Nat} {S : Nat → Nat → Rat} {Q E} (hS : Sheet s n S) (h : Q (.dat .none) []) : gam P (k + 7) "check_sheet" [.dat (sheetD n S)] Q E := by
  have h1 := hS.one
  have h5 := hS.most
  have hb := hS.bits
  have m5 := mul5 (s := s) h5
  refine R.opn Nd.nd (Has.mem (d := d_check_sheet)) rfl ?_
  simp only [d_check_sheet, List.map, List.replicate, List.length_cons, List.length_nil, List.cons_append, List.nil_append, Nat.reduceAdd, Nat.reduceSub]
  simp only [sheetD]
  (repeat walk_at "w1")
  refine R.ifF ?_
  (repeat walk_at "w1")
  rw [tab_len]
  refine R.iteD (fun g => by omega) fun _ => ?_
  (repeat walk_at "w1")
  rw [tab_len]
  refine R.iteD (fun g => by omega) fun _ => ?_
  (repeat walk_at "w1")
  rw [tab_enum]
  refine for_l (α := Nat) (σ := Option Sl × Option Sl) (fun i => .tuple [.int i, frT n (S i)]) (fun s => [some (.dat (sheetD n S)), s.1, s.2]) (fun l s => (∀ i ∈ l, i < n) ∧ R.okSl s.1 = true ∧ R.okSl s.2 = true) ?_ ?_ (List.range n) (none, none) ⟨fun i hi => List.mem_range.mp hi, rfl, rfl⟩
  · rintro i is ⟨x, y⟩ nx ⟨hi, hx, hy⟩ hn
    have hi' := hi i List.mem_cons_self
    refine R.an_two (R.nio rfl hx) (R.nio rfl hy) ?_
    simp only [sheetD]
    (repeat walk_at "w1")
    simp only [frT]
    rw [tab_len, frT_map]
    have e : (n : Int) = (((List.range n).map (S i)).length : Int) := by simp
    rw [e]
    refine w_is_unit (s := s) (t := 1 + n * (s + 1)) (fun q hq => ?_) ?_ ?_ ?_ ?_ ?_
    · obtain ⟨j, hj, rfl⟩ := List.mem_map.mp hq
      exact hS.shr hi' (List.mem_range.mp hj)
    · simp only [List.length_map, List.length_range]
      have : (n + 1) * (s + 1) = n * (s + 1) + (s + 1) := by rw [Nat.add_mul, Nat.one_mul]
      omega
    · rw [sumR_tab]; exact hS.szRow hi'
    · omega
    · rw [sumR_tab]; exact hS.sub.row i hi'
    · (repeat walk_at "w1")
      refine R.ifF ?_
      (repeat walk_at "w1")
      rw [← frT_map]
      exact hn (_, _) ⟨fun j hj => hi j (List.mem_cons_of_mem _ hj), rfl, rfl⟩
  · rintro ⟨x, y⟩ ⟨_, hx, hy⟩
    (repeat walk_at "w1")
    exact h
theorem w_is_between {P : List FDef} [Nd P] [Has P d_is_between] [Has P d_is_whole] {k : Nat} {a b c : Int} {Q E} (h : Q (.dat (.bool (decide (b ≤ a ∧ a ≤ c)))) []) : gam P (k + 2) "is_between" [.dat (.int a), .dat (.int b), .dat (.int c)] Q E := by
  refine R.opn Nd.nd (Has.mem (d := d_is_between)) rfl ?_
  simp only [d_is_between, List.map, List.replicate, List.length_cons, List.length_nil, List.cons_append, List.nil_append, Nat.reduceAdd, Nat.reduceSub]
  (repeat walk_at "w1")
  refine w_is_whole ?_
  (repeat walk_at "w1")
  refine R.ifT ?_
  (repeat walk_at "w1")
  refine R.iteD (fun g => ?_) fun g => ?_
  · (repeat walk_at "w1")
    have : decide (b ≤ a ∧ a ≤ c) = decide (a ≤ c) := by simp [g]
    rw [this] at h; exact h
  · (repeat walk_at "w1")
    have : decide (b ≤ a ∧ a ≤ c) = false := by simp [g]
    rw [this] at h; exact h
theorem w_check_unit {P : List FDef} [Nd P] [Has P d_check_unit] [Has P d_is_between] [Has P d_is_whole] {k n u : Nat} {S : Nat → Nat → Rat} {Q E} (hu : u < n) (h : Q (.dat .none) []) : gam P (k + 3) "check_unit" [.dat (sheetD n S), .dat (.int u)] Q E := by
  refine R.opn Nd.nd (Has.mem (d := d_check_unit)) rfl ?_
  simp only [d_check_unit, List.map, List.replicate, List.length_cons, List.length_nil, List.cons_append, List.nil_append, Nat.reduceAdd, Nat.reduceSub]
  simp only [sheetD]
  (repeat walk_at "w1")
  refine w_is_between ?_
  (repeat walk_at "w1")
  rw [tab_len]
  rw [decide_eq_true (show (0 : Int) ≤ u ∧ (u : Int) ≤ n - 1 by omega)]
  refine R.ifF ?_
  (repeat walk_at "w1")
  exact h
theorem w_losses_by {P : List FDef} [Nd P] [Has P d_losses_by] [Has P d_minus] [Has P d_ratio] [Has P d_lowest] [Has P d_divisor_of] [Has P d_total] [Has P d_plus] {k s n : Nat} {S : Nat → Nat → Rat} {Q E} (hS : Sheet s n S) (h : Q (.dat (frT n fun i => 1 - Mx.sm n (S i))) []) : gam P (k + 6) "losses_by" [.dat (sheetD n S)] Q E := by
  have h5 := hS.most
  have hb := hS.bits
  have m5 := mul5 (s := s) h5
  refine R.opn Nd.nd (Has.mem (d := d_losses_by)) rfl ?_
  simp only [d_losses_by, List.map, List.replicate, List.length_cons, List.length_nil, List.cons_append, List.nil_append, Nat.reduceAdd, Nat.reduceSub]
  simp only [sheetD]
  (repeat walk_at "w1")
  refine ⟨noOwn1 rfl, ?_⟩
  simp only [wpo, wipeR]
  refine comp_l (α := Nat) (fun i => frT n (S i)) (fun i => fr (1 - Mx.sm n (S i))) rfl (fun _ => rfl) trivial (List.range n) [] (fun i hi nx hn => ?_) ?_
  · have hi' := List.mem_range.mp hi
    (repeat walk_at "w1")
    simp only [frT]
    refine w_totalG (s := s) (qs := (List.range n).map (S i)) (.inl (by rw [frT_map])) (fun q hq => ?_) ?_ ?_
    · obtain ⟨j, hj, rfl⟩ := List.mem_map.mp hq
      exact hS.sz i j hi' (List.mem_range.mp hj)
    · simp only [List.length_map, List.length_range]
      have : (n + 1) * (s + 1) = n * (s + 1) + (s + 1) := by rw [Nat.add_mul, Nat.one_mul]
      omega
    · (repeat walk_at "w1")
      rw [sumR_tab]
      refine w_minus (a := 1) sz_one (hS.szRow hi') (by omega) ?_
      (repeat walk_at "w1")
      exact hn
  · (repeat walk_at "w1")
    exact h
/-- a share above 0 -/
def ed (S : Nat → Nat → Rat) (i j : Nat) : Bool := !decide (S i j = 0)
theorem w_reached_from {P : List FDef} [Nd P] [Has P d_reached_from] {k s n : Nat} {S : Nat → Nat → Rat} {l : List Nat} {Q E} (hS : Sheet s n S) (hl : ∀ i ∈ l, i < n) (h : Q (.own ((Mx.rchL n (ed S) fun i => l.contains i).map fun (j : Nat) => PyData.int (j : Int))) []) : gam P (k + 1) "reached_from" [.dat (sheetD n S), .dat (.list (l.map fun (j : Nat) => PyData.int (j : Int)))] Q E := by
  have h1 := hS.one
  have h5 := hS.most
  have e : sheetD n S = .tuple (tab n fun i => frT n (S i)) := rfl
  refine R.opn Nd.nd (Has.mem (d := d_reached_from)) rfl ?_
  simp only [d_reached_from, List.map, List.replicate, List.length_cons, List.length_nil, List.cons_append, List.nil_append, Nat.reduceAdd, Nat.reduceSub]
  (repeat walk_at "w1")
  rw [e]
  (repeat walk_at "w1")
  rw [tab_len]
  refine R.rng1 (by omega) (by unfold LenOk; rw [sizeLine_eq]; omega) ?_
  refine for_l (α := Nat) (σ := List Nat × Option Sl) (fun i => .int (i : Int)) (fun s => [some (.dat (sheetD n S)), some (.dat (.list (l.map fun (j : Nat) => PyData.int (j : Int)))), some (.own false (s.1.map fun (j : Nat) => PyData.int (j : Int))), s.2, none, none])
    (fun xs s => R.okSl s.2 = true ∧ (∀ i ∈ s.1, i < n) ∧ Mx.grows n (ed S) s.1 xs.length = Mx.grows n (ed S) l n) ?_ ?_ (List.range n) (l, none) ⟨rfl, hl, by simp⟩
  · rintro i is ⟨f, x⟩ nx ⟨hx, hf, hg⟩ hn
    refine R.an_name (R.nio rfl hx) ?_
    rw [e]
    (repeat walk_at "w1")
    rw [tab_len]
    refine R.rng1 (by omega) (by unfold LenOk; rw [sizeLine_eq]; omega) ?_
    refine ⟨noOwn1 rfl, ?_⟩
    simp only [wpo, wipeR]
    refine comp_if (α := Nat) (fun i => .int (i : Int)) (fun i => .int (i : Int)) (fun j => f.contains j || f.any fun i => ed S i j) rfl (fun _ => rfl) trivial (List.range n) [] (fun j hj nx hn => ?_) (fun j hj _ nx hn => ?_) ?_
    · have hj' := List.mem_range.mp hj
      (repeat walk_at "w1")
      refine isin_nat ?_
      refine R.iteB (fun g => ?_) fun g => ?_
      · rw [g] at hn; exact hn
      · (repeat walk_at "w1")
        refine ⟨noOwn1 rfl, ?_⟩
        simp only [wpo, wipeR]
        refine comp_l (α := Nat) (fun i => .int (i : Int)) (fun i => .bool (ed S i j)) rfl (fun _ => rfl) (by rfl) f [] (fun i hi nx hn => ?_) ?_
        · (repeat walk_at "w1")
          refine R.idx_t (tab_at (hf i hi)) ?_
          (repeat walk_at "w1")
          simp only [frT]
          refine R.idx_t (tab_at hj') ?_
          (repeat walk_at "w1")
          refine ne_fr (b := 0) ?_
          (repeat walk_at "w1")
          exact hn
        · (repeat walk_at "w1")
          refine any_l ?_
          (repeat walk_at "w1")
          rw [g, Bool.false_or] at hn; exact hn
    · (repeat walk_at "w1")
      exact hn
    · (repeat walk_at "w1")
      refine hn (Mx.grow n (ed S) f, _) ⟨rfl, Mx.grow_lt, ?_⟩
      rw [← hg, List.length_cons]
      exact Mx.grows_succ n (ed S) f is.length
  · rintro ⟨f, x⟩ ⟨hx, hf, hg⟩
    (repeat walk_at "w1")
    have : f = Mx.rchL n (ed S) fun i => l.contains i := by
      rw [← Mx.grows_rch h1 hl, ← hg]; rfl
    rw [this]
    exact h
/-- whether a unit reaches one with a loss -/
noncomputable def lossy (n : Nat) (S : Nat → Nat → Rat) (u : Nat) : Bool := (Mx.rchL n (ed S) fun i => i == u).any fun j => !decide (1 - Mx.sm n (S j) = 0)
theorem one_contains (u : Nat) : (fun i => [u].contains i) = fun i => i == u := by funext i; rw [Bool.eq_iff_iff]; simp
theorem w_reached1 {P : List FDef} [Nd P] [Has P d_reached_from] {k s n u : Nat} {S : Nat → Nat → Rat} {Q E} (hS : Sheet s n S) (hu : u < n) (h : Q (.own ((Mx.rchL n (ed S) fun i => i == u).map fun (j : Nat) => PyData.int (j : Int))) []) : gam P (k + 1) "reached_from" [.dat (sheetD n S), .dat (.list [.int (u : Int)])] Q E := by
  refine w_reached_from (l := [u]) hS (by simpa using hu) ?_
  rw [one_contains]; exact h
theorem w_loses {P : List FDef} [Nd P] [Has P d_loses] [Has P d_losses_by] [Has P d_minus] [Has P d_ratio] [Has P d_lowest] [Has P d_divisor_of] [Has P d_total] [Has P d_plus] [Has P d_reached_from] {k s n u : Nat} {S : Nat → Nat → Rat} {Q E} (hS : Sheet s n S) (hu : u < n) (h : Q (.dat (.bool (lossy n S u))) []) : gam P (k + 7) "loses" [.dat (sheetD n S), .dat (.int u)] Q E := by
  refine R.opn Nd.nd (Has.mem (d := d_loses)) rfl ?_
  simp only [d_loses, List.map, List.replicate, List.length_cons, List.length_nil, List.cons_append, List.nil_append, Nat.reduceAdd, Nat.reduceSub]
  (repeat walk_at "w1")
  refine w_losses_by hS ?_
  (repeat walk_at "w1")
  refine w_reached1 hS hu ?_
  (repeat walk_at "w1")
  refine ⟨noOwn1 rfl, ?_⟩
  simp only [wpo, wipeR]
  refine comp_l (α := Nat) (fun i => .int (i : Int)) (fun j => .bool (!decide (1 - Mx.sm n (S j) = 0))) rfl (fun _ => rfl) trivial _ [] (fun j hj nx hn => ?_) ?_
  · have hj' : j < n := (Mx.mem_rchL.mp hj).lt
    (repeat walk_at "w1")
    simp only [frT]
    refine R.idx_t (tab_at hj') ?_
    (repeat walk_at "w1")
    refine ne_fr (b := 0) ?_
    (repeat walk_at "w1")
    exact hn
  · (repeat walk_at "w1")
    refine any_l ?_
    (repeat walk_at "w1")
    exact h
end Lib
namespace Lib
open PySem DL L2
local macro_rules | `(tactic| walk_at "w1") => `(tactic| (first
  | (with_reducible refine R.lit ?_) | (with_reducible refine R.con ?_)
  | ((with_reducible refine' R.var ?g ?h); (case g => exact rfl))
  | ((with_reducible refine' R.varO ?g ?h); (case g => exact rfl))
  | (with_reducible refine R.op2 ?_) | (with_reducible refine R.cmp ?_) | (with_reducible refine R.idx ?_) | (with_reducible refine R.slc ?_) | (with_reducible refine R.oN ?_) | (with_reducible refine R.oS ?_)
  | (with_reducible refine R.tcmp ?_) | (with_reducible refine R.tnot ?_) | (with_reducible refine R.tand ?_) | (with_reducible refine R.tor ?_) | (with_reducible refine R.tcall ?_) | (with_reducible refine R.tbi ?_) | (with_reducible refine R.tisN ?_) | (with_reducible refine R.tnotN ?_) | (with_reducible refine R.tchain ?_) | (with_reducible refine R.tvar ?_) | (with_reducible refine R.tcallK ?_)
  | (with_reducible refine R.isN ?_) | (with_reducible refine R.notN ?_) | (with_reducible refine R.chain ?_) | (with_reducible refine R.neg ?_) | (with_reducible refine R.not ?_) | (with_reducible refine R.and ?_) | (with_reducible refine R.or ?_) | (with_reducible refine R.ife ?_)
  | (with_reducible refine R.tup ?_) | (with_reducible refine R.lst ?_) | (with_reducible refine R.call ?_) | (with_reducible refine R.callK ?_) | (with_reducible refine R.callIo ?_) | (with_reducible refine R.bi ?_) | (with_reducible refine R.comp ?_) | (with_reducible refine R.index ?_) | (with_reducible refine R.repL ?_) | (with_reducible refine R.listR ?_)
  | (with_reducible refine R.an ?_) | (with_reducible refine R.ac ?_) | (with_reducible refine R.en ?_) | (with_reducible refine R.ec ?_) | (with_reducible refine R.ed ?_) | (with_reducible refine R.eo ?_)
  | ((with_reducible refine' R.erd ?g ?h); (case g => exact rfl)) | ((with_reducible refine' R.ero ?g ?h); (case g => exact rfl))
  | ((with_reducible refine' R.w1 ?g ?h); (case g => exact rfl)) | ((with_reducible refine' R.w2 ?g ?g' ?h); (case g => exact rfl); (case g' => exact rfl)) | ((with_reducible refine' R.ws ?g ?h); (case g => exact rfl))
  | (with_reducible refine R.fval rfl ?_) | (with_reducible refine R.f_l ?_) | (with_reducible refine R.f_t ?_) | (with_reducible refine R.ival rfl ?_) | (with_reducible refine R.i_l ?_) | (with_reducible refine R.i_t ?_) | (with_reducible refine R.i_o ?_) | ((with_reducible refine' R.i_r ?g ?h); (case g => exact rfl))
  | (with_reducible refine R.irange ?_) | (with_reducible refine R.frange ?_) | (with_reducible refine R.ienum ?_) | (with_reducible refine R.fenum ?_) | (with_reducible refine R.izip ?_) | (with_reducible refine R.fzip ?_) | (with_reducible refine R.irev ?_) | (with_reducible refine R.frev ?_) | ((with_reducible refine' R.zip_at ?g ?g' ?h); (case g => exact rfl); (case g' => exact rfl)) | (with_reducible refine R.eq_i ?_) | (with_reducible refine R.ne_i ?_) | (with_reducible refine R.sretN ?_)
  | (with_reducible refine R.sn ?_) | (with_reducible refine R.sc ?_) | (with_reducible refine R.sasg ?_) | (with_reducible refine R.spar ?_) | (with_reducible refine R.sexpr ?_) | (with_reducible refine R.sapp ?_) | (with_reducible refine R.sext ?_) | (with_reducible refine R.sret ?_) | (with_reducible refine R.site ?_) | (with_reducible refine R.sfor ?_)
  | ((with_reducible refine R.nd_ ?n ?h); (case n => first | exact R.nio rfl rfl | exact R.nio rfl (DL.NoOw.ok (by assumption)))) | ((with_reducible refine R.no_ ?n ?h); (case n => first | exact R.nio rfl rfl | exact R.nio rfl (DL.NoOw.ok (by assumption)))) | ((with_reducible refine R.nr_ ?n ?h); (case n => first | exact R.nio rfl rfl | exact R.nio rfl (DL.NoOw.ok (by assumption))))
  | ((with_reducible refine' R.an_name ?n ?h); (case n => first | assumption | exact R.nio rfl rfl | exact R.nio rfl (DL.NoOw.ok (by assumption)))) | ((with_reducible refine' R.an_two ?n ?m ?h); (case n => first | assumption | exact R.nio rfl rfl | exact R.nio rfl (DL.NoOw.ok (by assumption))); (case m => first | assumption | exact R.nio rfl rfl | exact R.nio rfl (DL.NoOw.ok (by assumption)))) | ((with_reducible refine' R.an_three ?n ?m ?o ?h); (case n => first | assumption | exact R.nio rfl rfl | exact R.nio rfl (DL.NoOw.ok (by assumption))); (case m => first | assumption | exact R.nio rfl rfl | exact R.nio rfl (DL.NoOw.ok (by assumption))); (case o => first | assumption | exact R.nio rfl rfl | exact R.nio rfl (DL.NoOw.ok (by assumption)))) | (with_reducible refine R.tt rfl ?_) | (with_reducible refine R.tn ?_) | (with_reducible refine R.tc ?_) | (with_reducible refine R.subd ?_) | ((with_reducible refine' R.own_and ?g ?h); (case g => exact rfl)) | ((with_reducible refine' R.put_at ?g ?g' ?h); (case g => exact rfl); (case g' => exact rfl)) | ((with_reducible refine' R.io_ref ?g ?h); (case g => exact rfl)) | (with_reducible refine R.io_own ?_) | (with_reducible refine R.one_1 ?_) | (with_reducible refine R.setn ?_) | (with_reducible refine R.setd ?_) | (with_reducible refine R.seto ?_) | (with_reducible refine R.setr ?_)
  | ((with_reducible refine' R.find ?g ?h); (case g => exact rfl)) | ((with_reducible refine' R.fino ?g ?h); (case g => exact rfl)) | ((with_reducible refine' R.finr ?g ?g' ?h); (case g => exact rfl); (case g' => exact rfl)) | ((with_reducible refine' R.find' ?g ?g' ?h); (case g => exact rfl); (case g' => exact rfl))
  | (with_reducible refine R.ifT ?_) | (with_reducible refine R.ifF ?_)
  | ((with_reducible refine' R.pow_i ?g ?h); (case g => decide)) | ((with_reducible refine' R.mul_i ?g ?h); (case g => exact mulOk 60 60 (by omega) (by omega) (by decide))) | ((with_reducible refine' R.fdiv_i ?g ?h); (case g => exact divOk (by omega) (by omega))) | ((with_reducible refine' R.mod_i ?g ?h); (case g => omega))
  | (with_reducible refine R.add_i ?_) | (with_reducible refine R.sub_i ?_) | (with_reducible refine R.lt_i ?_) | (with_reducible refine R.le_i ?_) | (with_reducible refine R.gt_i ?_) | (with_reducible refine R.ge_i ?_)
  | ((with_reducible refine' R.idx_l ?g ?h); (case g => exact rfl)) | ((with_reducible refine' R.idx_t ?g ?h); (case g => exact rfl)) | (with_reducible refine R.slc_l ?_) | (with_reducible refine R.slc_t ?_)
  | (with_reducible refine R.len_l ?_) | (with_reducible refine R.len_t ?_) | (with_reducible refine R.tuple_l ?_) | (with_reducible refine R.tuple_t ?_) | (with_reducible refine R.list_l ?_) | (with_reducible refine R.list_t ?_) | (with_reducible refine R.abs_i ?_) | (with_reducible refine R.int_i ?_) | (with_reducible refine R.gcd_i ?_)
  | (with_reducible refine R.isint ?_) | (with_reducible refine R.isbool ?_) | (with_reducible refine R.istuple ?_) | (with_reducible refine R.islist ?_)
  | (with_reducible refine R.sum_is ?_) | (with_reducible refine R.all_bs ?_) | ((with_reducible refine R.any_bs ?_))); (try dsimp only [List.map, List.set, Int.reduceToNat, Bool.not_true, Bool.not_false, DL.restR, DL.gt, DL.wipeR]))
/-- rows of whole numbers over their sums and losses -/
structure Row (n : Nat) (f : Nat → Rat) (N : Nat → Int) (u : Nat) : Prop where
  u1 : 1 ≤ u
  u2 : u ≤ 420
  n0 : ∀ j, j < n → 0 ≤ N j
  n3 : ∀ j, j < n → N j ≤ 3
  eq : ∀ j, j < n → f j = mkRat (N j) u
  sum : Mx.sm n (fun j => (N j : Rat)) ≤ (u : Rat)
theorem sum_cast : ∀ (vs : List Int), Mx.sm vs.length (fun j => (((vs.getD j 0 : Int)) : Rat)) = ((vs.sum : Int) : Rat) := by
  intro vs
  have key : ∀ (ws : List Int), Mx.sm ws.reverse.length (fun j => (((ws.reverse.getD j 0 : Int)) : Rat)) = ((ws.reverse.sum : Int) : Rat) := by
    intro ws
    induction ws with
    | nil => rfl
    | cons v ws ih =>
    rw [List.reverse_cons]
    generalize ws.reverse = vs at ih ⊢
    rw [List.length_append, List.length_singleton]
    simp only [Mx.sm]
    have e1 : Mx.sm vs.length (fun j => ((((vs ++ [v]).getD j 0 : Int)) : Rat)) = Mx.sm vs.length (fun j => (((vs.getD j 0 : Int)) : Rat)) := Mx.sm_congr fun j hj => by
      rw [List.getD_eq_getElem?_getD, List.getD_eq_getElem?_getD, List.getElem?_append_left hj]
    rw [e1, ih]
    have e2 : (vs ++ [v]).getD vs.length 0 = v := by simp
    rw [e2, List.sum_append, Rat.intCast_add]
    simp
  have := key vs.reverse
  rw [List.reverse_reverse] at this
  exact this
theorem map_tab {vs : List Int} {f : Int → D} : vs.map f = tab vs.length fun j => f (vs.getD j 0) := by
  unfold tab
  apply List.ext_getElem
  · simp
  · intro j h1 h2
    simp only [List.length_map] at h1
    simp [List.getD_eq_getElem?_getD, h1]
theorem int_cases {x : D} {l : List Int} (h : x ∈ l.map PyData.int) : ∃ v, v ∈ l ∧ x = .int v := by
  obtain ⟨v, a, b⟩ := List.mem_map.mp h
  exact ⟨v, a, b.symm⟩
theorem w_unit {P : List FDef} [Nd P] [Has P d__law_unit] [Has P d__law_of] [Has P d__law_drop] [Has P d__law_frac] [Has P d__law_thin] [Has P d__law_gcd] {k m n : Nat} {xs : List D} {b : Bool} {Q E} (hx : Tap m xs) (hm : m < 900000) (h1 : 0 < n) (h5 : n ≤ 5)
    (h : ∀ (ys : List D) (f : Nat → Rat) (N : Nat → Int) (u : Nat), Tap (m + 7) ys → Row n f N u → Q (.dat (frT n f)) [ys]) : gam P (k + 4) "_law_unit" [.own true xs, .dat (.int n), .dat (.bool b)] Q E := by
  refine R.opn Nd.nd (Has.mem (d := d__law_unit)) rfl ?_
  simp only [d__law_unit, List.map, List.replicate, List.length_cons, List.length_nil, List.cons_append, List.nil_append, Nat.reduceAdd, Nat.reduceSub]
  (repeat walk_at "w1")
  refine R.rng1 (by omega) (by unfold LenOk; rw [sizeLine_eq]; omega) ?_
  refine for_l (α := Nat) (σ := List D × List Int × Option Sl) (fun i => .int (i : Int)) (fun s => [some (.own true s.1), some (.dat (.int n)), some (.dat (.bool b)), some (.own false (s.2.1.map .int)), s.2.2, none, none, none])
    (fun is s => R.okSl s.2.2 = true ∧ Tap (m + s.2.1.length) s.1 ∧ is.length + s.2.1.length = n ∧ ∀ v ∈ s.2.1, 0 ≤ v ∧ v ≤ 3) ?_ ?_ (List.range n) (xs, [], none) ⟨rfl, hx, by simp, by simp⟩
  · rintro i is ⟨t, vs, x⟩ nx ⟨hx, ht, hl, hv⟩ hn
    simp only [List.length_cons] at ht hl hv hx
    refine R.an_name (R.nio rfl hx) ?_
    (repeat walk_at "w1")
    have fin : ∀ (zs : List D) (v : Int), Tap (m + vs.length + 1) zs → 0 ≤ v → v ≤ 3 → nx [some (.own true zs), some (.dat (.int n)), some (.dat (.bool b)), some (.own false ((vs ++ [v]).map .int)), some (.dat (.int i)), none, none, none] := fun zs v hz a c =>
      hn (zs, vs ++ [v], some (.dat (.int i))) ⟨rfl, by simpa [Nat.add_assoc] using hz, by simp; omega, fun w hw => by
        rcases List.mem_append.mp hw with q | q
        · exact hv w q
        · simp only [List.mem_singleton] at q; subst q; exact ⟨a, c⟩⟩
    refine R.iteB (fun g => ?_) fun g => ?_
    · (repeat walk_at "w1")
      refine w_of (ys := [0, 0, 1, 1, 2, 3].map PyData.int) ht (by omega) (.inl rfl) (by simp) (by simp) fun zs y hz hy => ?_
      obtain ⟨v, hv', rfl⟩ := int_cases hy
      (repeat walk_at "w1")
      refine R.app_at rfl (by rw [sizeLine_eq]; simp; omega) ?_
      (repeat walk_at "w1")
      have := fin zs v hz (by simp at hv'; omega) (by simp at hv'; omega)
      rw [List.map_append] at this
      exact this
    · (repeat walk_at "w1")
      refine w_of (ys := [0, 0, 0, 1, 2].map PyData.int) ht (by omega) (.inl rfl) (by simp) (by simp) fun zs y hz hy => ?_
      obtain ⟨v, hv', rfl⟩ := int_cases hy
      (repeat walk_at "w1")
      refine R.app_at rfl (by rw [sizeLine_eq]; simp; omega) ?_
      (repeat walk_at "w1")
      have := fin zs v hz (by simp at hv'; omega) (by simp at hv'; omega)
      rw [List.map_append] at this
      exact this
  · rintro ⟨t, vs, x⟩ ⟨hx, ht, hl, hv⟩
    simp only [List.length_nil, Nat.zero_add] at ht hl hv hx
    subst hl
    -- the end, from numbers and a loss
    have fin2 : ∀ (zs : List D) (ws : List Int) (c : Int), Tap (m + 7) zs → ws.length = vs.length → (∀ v ∈ ws, 0 ≤ v ∧ v ≤ 3) → 0 ≤ c → c ≤ 400 →
        wpSs ((gam P (k + 3))) [.asg (.name 6) (.op2 .add (.bi .sum [.var 3]) (.var 5)), .ret (.bi .tuple [.comp (.ife (.cmp .gt (.var 6) (.lit (.int 0))) (.call "_law_frac" [.var 7, .var 6]) (.tup [.lit (.int 0), .lit (.int 1)])) (.name 7) (.var 3) none [7]])] E
          { nx := DL.fin [.own true xs, .dat (.int vs.length), .dat (.bool b)] Q (.dat .none), rt := DL.fin [.own true xs, .dat (.int vs.length), .dat (.bool b)] Q, bk := fun _ => False, ct := fun _ => False }
          [some (.own true zs), some (.dat (.int vs.length)), some (.dat (.bool b)), some (.own false (ws.map .int)), x, some (.dat (.int c)), none, none] := by
      intro zs ws c hz hl hw c0 c4
      (repeat walk_at "w1")
      have s0 : 0 ≤ ws.sum ∧ ws.sum ≤ 3 * ws.length := by
        clear hl
        induction ws with
        | nil => simp
        | cons w ws ih =>
          have := ih fun v hv => hw v (List.mem_cons_of_mem _ hv)
          have := hw w List.mem_cons_self
          simp only [List.sum_cons, List.length_cons]
          omega
      refine ⟨noOwn1 rfl, ?_⟩
      simp only [wpo, wipeR]
      obtain ⟨u, hu⟩ := Int.eq_ofNat_of_zero_le (show 0 ≤ ws.sum + c by omega)
      rw [hu]
      refine comp_l (α := Int) .int (fun v => fr (if 0 < u then mkRat v u else 0)) rfl (fun _ => rfl) (by rfl) ws [] (fun v hv nx hn => ?_) ?_
      · (repeat walk_at "w1")
        refine R.iteD (fun g => ?_) fun g => ?_
        · rw [if_pos (by omega)] at hn
          (repeat walk_at "w1")
          refine w_frac (by omega) (Nat.lt_of_lt_of_le (m := 2 ^ 9) (by omega) (Nat.pow_le_pow_right (by omega) (by omega))) ?_
          (repeat walk_at "w1")
          exact hn
        · rw [if_neg (by omega)] at hn
          (repeat walk_at "w1")
          exact hn
      · (repeat walk_at "w1")
        have e := map_tab (vs := ws) (f := fun v => fr (if 0 < u then mkRat v u else 0))
        rw [List.nil_append, e, hl]
        refine h zs (fun j => if 0 < u then mkRat (ws.getD j 0) u else 0) (fun j => ws.getD j 0) (max u 1) hz ⟨by omega, by omega, fun j hj => ?_, fun j hj => ?_, fun j hj => ?_, ?_⟩
        · have : ws.getD j 0 ∈ ws := by rw [List.getD_eq_getElem?_getD, List.getElem?_eq_getElem (by omega)]; exact List.getElem_mem _
          exact (hw _ this).1
        · have : ws.getD j 0 ∈ ws := by rw [List.getD_eq_getElem?_getD, List.getElem?_eq_getElem (by omega)]; exact List.getElem_mem _
          exact (hw _ this).2
        · show (if 0 < u then mkRat (ws.getD j 0) u else 0) = _
          by_cases g : 0 < u
          · rw [if_pos g, Nat.max_eq_left (by omega)]
          · have m0 : ws.getD j 0 ∈ ws := by rw [List.getD_eq_getElem?_getD, List.getElem?_eq_getElem (by omega)]; exact List.getElem_mem _
            have z : ws.getD j 0 = 0 := by
              have le : ws.getD j 0 ≤ ws.sum := by
                clear e hl hu s0
                generalize ws.getD j 0 = w at m0
                induction ws with
                | nil => cases m0
                | cons a ws ih =>
                  have nn : 0 ≤ ws.sum := by
                    clear ih m0
                    induction ws with
                    | nil => simp
                    | cons b ws ih2 =>
                      have := ih2 (fun v hv => hw v (by rcases List.mem_cons.mp hv with q | q; exact q ▸ List.mem_cons_self; exact List.mem_cons_of_mem _ (List.mem_cons_of_mem _ q)))
                      have := (hw b (List.mem_cons_of_mem _ List.mem_cons_self)).1
                      simp only [List.sum_cons]; omega
                  rcases List.mem_cons.mp m0 with rfl | q
                  · simp only [List.sum_cons]; omega
                  · have := ih (fun v hv => hw v (List.mem_cons_of_mem _ hv)) q
                    have := (hw a List.mem_cons_self).1
                    simp only [List.sum_cons]; omega
              have := (hw _ m0).1
              omega
            rw [if_neg g, z]; simp
        · rw [← hl, sum_cast]
          have : ws.sum ≤ ((max u 1 : Nat) : Int) := by omega
          exact_mod_cast this
    have last : ∀ (zs : List D) (ws : List Int) (c : Int), Tap (m + vs.length + 1) zs → ws.length = vs.length → (∀ v ∈ ws, 0 ≤ v ∧ v ≤ 3) → 0 ≤ c → c ≤ 400 →
        wpSs ((gam P (k + 3))) [.ite (.and (.var 2) (.cmp .eq (.bi .sum [.var 3]) (.lit (.int 0)))) [.asg (.sub 3 (.callIo "_law_drop" (.var 0) [.var 1])) (.lit (.int 1))] [], .asg (.name 6) (.op2 .add (.bi .sum [.var 3]) (.var 5)), .ret (.bi .tuple [.comp (.ife (.cmp .gt (.var 6) (.lit (.int 0))) (.call "_law_frac" [.var 7, .var 6]) (.tup [.lit (.int 0), .lit (.int 1)])) (.name 7) (.var 3) none [7]])] E
          { nx := DL.fin [.own true xs, .dat (.int vs.length), .dat (.bool b)] Q (.dat .none), rt := DL.fin [.own true xs, .dat (.int vs.length), .dat (.bool b)] Q, bk := fun _ => False, ct := fun _ => False }
          [some (.own true zs), some (.dat (.int vs.length)), some (.dat (.bool b)), some (.own false (ws.map .int)), x, some (.dat (.int c)), none, none] := by
      intro zs ws c hz hl hw c0 c4
      (repeat walk_at "w1")
      refine R.iteB (fun g => ?_) fun g => ?_
      · (repeat walk_at "w1")
        refine R.iteD (fun g2 => ?_) fun g2 => ?_
        · (repeat walk_at "w1")
          refine w_dropT hz (by omega) (by omega) (by omega) fun ys r hy hr => ?_
          (repeat walk_at "w1")
          refine R.put_at rfl (n := r) (by unfold ixN; simp; omega) ?_
          have e : (ws.map PyData.int).set r (.int 1) = (ws.set r 1).map .int := by simp
          rw [e]
          refine fin2 ys (ws.set r 1) c (hy.mono (by omega)) (by simpa using hl) (fun v hv => ?_) c0 c4
          rcases List.mem_or_eq_of_mem_set hv with q | q
          · exact hw v q
          · subst q; omega
        · have key := fin2 zs ws c (hz.mono (by omega)) hl hw c0 c4
          (repeat (first | (with_reducible exact key) | walk_at "w1"))
      · have key := fin2 zs ws c (hz.mono (by omega)) hl hw c0 c4
        (repeat (first | (with_reducible exact key) | walk_at "w1"))
    (repeat walk_at "w1")
    refine R.iteB (fun g => ?_) fun g => ?_
    · (repeat walk_at "w1")
      refine w_of (ys := [0, 0, 1, 2, 5, 400].map PyData.int) ht (by omega) (.inl rfl) (by simp) (by simp) fun zs y hz hy => ?_
      obtain ⟨v, hv', rfl⟩ := int_cases hy
      have key := last zs vs v hz rfl hv (by simp at hv'; omega) (by simp at hv'; omega)
      (repeat (first | (with_reducible exact key) | walk_at "w1"))
    · (repeat walk_at "w1")
      refine w_of (ys := [0, 0, 0, 0, 1].map PyData.int) ht (by omega) (.inl rfl) (by simp) (by simp) fun zs y hz hy => ?_
      obtain ⟨v, hv', rfl⟩ := int_cases hy
      have key := last zs vs v hz rfl hv (by simp at hv'; omega) (by simp at hv'; omega)
      (repeat (first | (with_reducible exact key) | walk_at "w1"))
/-- a drawn sheet -/
structure Net (n : Nat) (S : Nat → Nat → Rat) : Prop where
  one : 0 < n
  most : n ≤ 5
  row : ∀ i, i < n → ∃ N u, Row n (S i) N u
theorem inv_nn {a : Rat} (h : 0 ≤ a) : 0 ≤ a⁻¹ := by
  by_cases z : a = 0
  · subst z; rw [Rat.inv_zero]; exact Rat.le_refl
  · exact Rat.le_of_lt (Rat.inv_pos.mpr (by grind))
theorem mkRat_nonneg' {a : Int} {u : Nat} (h : 0 ≤ a) : 0 ≤ mkRat a u := by
  rw [Rat.mkRat_eq_div]
  rw [Rat.div_def]
  exact Rat.mul_nonneg (by exact_mod_cast h) (inv_nn (by exact_mod_cast Nat.zero_le u))
theorem Row.sum_le {n u : Nat} {f : Nat → Rat} {N : Nat → Int} (r : Row n f N u) : Mx.sm n f ≤ 1 := by
  have u1 := r.u1
  have u0 : (0 : Rat) < (u : Rat) := by exact_mod_cast u1
  have e : Mx.sm n f = Mx.sm n (fun j => (N j : Rat)) * (u : Rat)⁻¹ := by
    rw [← Mx.sm_mulR]
    exact Mx.sm_congr fun j hj => by rw [r.eq j hj, Rat.mkRat_eq_div, Rat.div_def]
  rw [e]
  have := Rat.mul_le_mul_of_nonneg_right r.sum (inv_nn (Rat.le_of_lt u0))
  rw [Rat.mul_inv_cancel _ (Rat.ne_of_gt u0)] at this
  exact this
theorem Net.sheet {n : Nat} {S : Nat → Nat → Rat} (h : Net n S) : Sheet 9 n S := by
  refine ⟨h.one, h.most, ⟨fun i j hi hj => ?_, fun i hi => ?_⟩, fun i j hi hj => ?_, by omega⟩
  · obtain ⟨N, u, r⟩ := h.row i hi
    rw [r.eq j hj]; exact mkRat_nonneg' (r.n0 j hj)
  · obtain ⟨N, u, r⟩ := h.row i hi
    exact r.sum_le
  · obtain ⟨N, u, r⟩ := h.row i hi
    rw [r.eq j hj]
    have := r.u1
    have := r.u2
    have := r.n0 j hj
    have := r.n3 j hj
    exact sz_mk _ _ _ (by omega) (by omega) (by omega)
theorem w_net {P : List FDef} [Nd P] [Has P d__law_net] [Has P d__law_drop] [Has P d__law_unit] [Has P d__law_of] [Has P d__law_frac] [Has P d__law_thin] [Has P d__law_gcd] {k m : Nat} {xs : List D} {Q E} (hx : Tap m xs) (hm : m < 800000)
    (h : ∀ (ys : List D) (n : Nat) (S : Nat → Nat → Rat), Tap (m + 37) ys → Net n S → Q (.dat (sheetD n S)) [ys]) : gam P (k + 5) "_law_net" [.own true xs] Q E := by
  refine R.opn Nd.nd (Has.mem (d := d__law_net)) rfl ?_
  simp only [d__law_net, List.map, List.replicate, List.length_cons, List.length_nil, List.cons_append, List.nil_append, Nat.reduceAdd, Nat.reduceSub]
  (repeat walk_at "w1")
  refine w_dropT hx (by omega) (by omega) (by omega) fun ys c hy hc => ?_
  (repeat walk_at "w1")
  refine w_dropT hy (by omega) (by omega) (by omega) fun zs s hz hs => ?_
  (repeat walk_at "w1")
  have e : (1 : Int) + (c : Int) = ((1 + c : Nat) : Int) := by omega
  rw [e]
  refine R.rng1 (by omega) (by unfold LenOk; rw [sizeLine_eq]; omega) ?_
  refine for_l (α := Nat) (σ := List D × List (Nat → Rat) × Option Sl) (fun i => .int (i : Int)) (fun t => [some (.own true t.1), t.2.2, some (.dat (.int ((1 + c : Nat) : Int))), some (.own false (t.2.1.map (frT (1 + c)))), some (.dat (.bool (decide ((s : Int) < 3))))])
    (fun is t => R.okSl t.2.2 = true ∧ Tap (m + 2 + 7 * t.2.1.length) t.1 ∧ is.length + t.2.1.length = 1 + c ∧ ∀ f ∈ t.2.1, ∃ N u, Row (1 + c) f N u) ?_ ?_ (List.range (1 + c)) (zs, [], none) ⟨rfl, hz, by simp, by simp⟩
  · rintro i is ⟨t, fs, x⟩ nx ⟨hx, ht, hl, hv⟩ hn
    simp only [List.length_cons] at ht hl hv hx
    refine R.an_name (R.nio rfl hx) ?_
    (repeat walk_at "w1")
    refine w_unit ht (by omega) (by omega) (by omega) fun us f N u hu r => ?_
    (repeat walk_at "w1")
    refine R.app_at rfl (by rw [sizeLine_eq]; simp; omega) ?_
    have := hn (us, fs ++ [f], some (.dat (.int i))) ⟨rfl, hu.mono (by simp; omega), by simp; omega, fun g hg => by
      rcases List.mem_append.mp hg with q | q
      · exact hv g q
      · simp only [List.mem_singleton] at q; subst q; exact ⟨N, u, r⟩⟩
    simp only [List.map_append, List.map_cons, List.map_nil] at this
    (repeat (first | (with_reducible exact this) | walk_at "w1"))
  · rintro ⟨t, fs, x⟩ ⟨hx, ht, hl, hv⟩
    simp only [List.length_nil, Nat.zero_add] at ht hl hv hx
    (repeat walk_at "w1")
    have key : fs.map (frT (1 + c)) = tab (1 + c) fun i => frT (1 + c) (fs.getD i fun _ => 0) := by
      unfold tab
      apply List.ext_getElem
      · simp [hl]
      · intro j h1 h2
        simp only [List.length_map] at h1
        simp [List.getD_eq_getElem?_getD, h1]
    rw [key]
    refine h t (1 + c) (fun i => fs.getD i fun _ => 0) (ht.mono (by omega)) ⟨by omega, by omega, fun i hi => ?_⟩
    have : fs.getD i (fun _ => 0) ∈ fs := by rw [List.getD_eq_getElem?_getD, List.getElem?_eq_getElem (by omega)]; exact List.getElem_mem _
    exact hv _ this
end Lib
namespace Lib
open PySem DL L2
local macro_rules | `(tactic| walk_at "w1") => `(tactic| (first
  | (with_reducible refine R.lit ?_) | (with_reducible refine R.con ?_)
  | ((with_reducible refine' R.var ?g ?h); (case g => exact rfl))
  | ((with_reducible refine' R.varO ?g ?h); (case g => exact rfl))
  | (with_reducible refine R.op2 ?_) | (with_reducible refine R.cmp ?_) | (with_reducible refine R.idx ?_) | (with_reducible refine R.slc ?_) | (with_reducible refine R.oN ?_) | (with_reducible refine R.oS ?_)
  | (with_reducible refine R.tcmp ?_) | (with_reducible refine R.tnot ?_) | (with_reducible refine R.tand ?_) | (with_reducible refine R.tor ?_) | (with_reducible refine R.tcall ?_) | (with_reducible refine R.tbi ?_) | (with_reducible refine R.tisN ?_) | (with_reducible refine R.tnotN ?_) | (with_reducible refine R.tchain ?_) | (with_reducible refine R.tvar ?_) | (with_reducible refine R.tcallK ?_)
  | (with_reducible refine R.isN ?_) | (with_reducible refine R.notN ?_) | (with_reducible refine R.chain ?_) | (with_reducible refine R.neg ?_) | (with_reducible refine R.not ?_) | (with_reducible refine R.and ?_) | (with_reducible refine R.or ?_) | (with_reducible refine R.ife ?_)
  | (with_reducible refine R.tup ?_) | (with_reducible refine R.lst ?_) | (with_reducible refine R.call ?_) | (with_reducible refine R.callK ?_) | (with_reducible refine R.callIo ?_) | (with_reducible refine R.bi ?_) | (with_reducible refine R.comp ?_) | (with_reducible refine R.index ?_) | (with_reducible refine R.repL ?_) | (with_reducible refine R.listR ?_)
  | (with_reducible refine R.an ?_) | (with_reducible refine R.ac ?_) | (with_reducible refine R.en ?_) | (with_reducible refine R.ec ?_) | (with_reducible refine R.ed ?_) | (with_reducible refine R.eo ?_)
  | ((with_reducible refine' R.erd ?g ?h); (case g => exact rfl)) | ((with_reducible refine' R.ero ?g ?h); (case g => exact rfl))
  | ((with_reducible refine' R.w1 ?g ?h); (case g => exact rfl)) | ((with_reducible refine' R.w2 ?g ?g' ?h); (case g => exact rfl); (case g' => exact rfl)) | ((with_reducible refine' R.ws ?g ?h); (case g => exact rfl))
  | (with_reducible refine R.fval rfl ?_) | (with_reducible refine R.f_l ?_) | (with_reducible refine R.f_t ?_) | (with_reducible refine R.ival rfl ?_) | (with_reducible refine R.i_l ?_) | (with_reducible refine R.i_t ?_) | (with_reducible refine R.i_o ?_) | ((with_reducible refine' R.i_r ?g ?h); (case g => exact rfl))
  | (with_reducible refine R.irange ?_) | (with_reducible refine R.frange ?_) | (with_reducible refine R.ienum ?_) | (with_reducible refine R.fenum ?_) | (with_reducible refine R.izip ?_) | (with_reducible refine R.fzip ?_) | (with_reducible refine R.irev ?_) | (with_reducible refine R.frev ?_) | ((with_reducible refine' R.zip_at ?g ?g' ?h); (case g => exact rfl); (case g' => exact rfl)) | (with_reducible refine R.eq_i ?_) | (with_reducible refine R.ne_i ?_) | (with_reducible refine R.sretN ?_)
  | (with_reducible refine R.sn ?_) | (with_reducible refine R.sc ?_) | (with_reducible refine R.sasg ?_) | (with_reducible refine R.spar ?_) | (with_reducible refine R.sexpr ?_) | (with_reducible refine R.sapp ?_) | (with_reducible refine R.sext ?_) | (with_reducible refine R.sret ?_) | (with_reducible refine R.site ?_) | (with_reducible refine R.sfor ?_)
  | ((with_reducible refine R.nd_ ?n ?h); (case n => first | exact R.nio rfl rfl | exact R.nio rfl (DL.NoOw.ok (by assumption)))) | ((with_reducible refine R.no_ ?n ?h); (case n => first | exact R.nio rfl rfl | exact R.nio rfl (DL.NoOw.ok (by assumption)))) | ((with_reducible refine R.nr_ ?n ?h); (case n => first | exact R.nio rfl rfl | exact R.nio rfl (DL.NoOw.ok (by assumption))))
  | ((with_reducible refine' R.an_name ?n ?h); (case n => first | assumption | exact R.nio rfl rfl | exact R.nio rfl (DL.NoOw.ok (by assumption)))) | ((with_reducible refine' R.an_two ?n ?m ?h); (case n => first | assumption | exact R.nio rfl rfl | exact R.nio rfl (DL.NoOw.ok (by assumption))); (case m => first | assumption | exact R.nio rfl rfl | exact R.nio rfl (DL.NoOw.ok (by assumption)))) | ((with_reducible refine' R.an_three ?n ?m ?o ?h); (case n => first | assumption | exact R.nio rfl rfl | exact R.nio rfl (DL.NoOw.ok (by assumption))); (case m => first | assumption | exact R.nio rfl rfl | exact R.nio rfl (DL.NoOw.ok (by assumption))); (case o => first | assumption | exact R.nio rfl rfl | exact R.nio rfl (DL.NoOw.ok (by assumption)))) | (with_reducible refine R.tt rfl ?_) | (with_reducible refine R.tn ?_) | (with_reducible refine R.tc ?_) | (with_reducible refine R.subd ?_) | ((with_reducible refine' R.own_and ?g ?h); (case g => exact rfl)) | ((with_reducible refine' R.put_at ?g ?g' ?h); (case g => exact rfl); (case g' => exact rfl)) | ((with_reducible refine' R.io_ref ?g ?h); (case g => exact rfl)) | (with_reducible refine R.io_own ?_) | (with_reducible refine R.one_1 ?_) | (with_reducible refine R.setn ?_) | (with_reducible refine R.setd ?_) | (with_reducible refine R.seto ?_) | (with_reducible refine R.setr ?_)
  | ((with_reducible refine' R.find ?g ?h); (case g => exact rfl)) | ((with_reducible refine' R.fino ?g ?h); (case g => exact rfl)) | ((with_reducible refine' R.finr ?g ?g' ?h); (case g => exact rfl); (case g' => exact rfl)) | ((with_reducible refine' R.find' ?g ?g' ?h); (case g => exact rfl); (case g' => exact rfl))
  | (with_reducible refine R.ifT ?_) | (with_reducible refine R.ifF ?_)
  | ((with_reducible refine' R.pow_i ?g ?h); (case g => decide)) | ((with_reducible refine' R.mul_i ?g ?h); (case g => exact mulOk 60 60 (by omega) (by omega) (by decide))) | ((with_reducible refine' R.fdiv_i ?g ?h); (case g => exact divOk (by omega) (by omega))) | ((with_reducible refine' R.mod_i ?g ?h); (case g => omega))
  | (with_reducible refine R.add_i ?_) | (with_reducible refine R.sub_i ?_) | (with_reducible refine R.lt_i ?_) | (with_reducible refine R.le_i ?_) | (with_reducible refine R.gt_i ?_) | (with_reducible refine R.ge_i ?_)
  | ((with_reducible refine' R.idx_l ?g ?h); (case g => exact rfl)) | ((with_reducible refine' R.idx_t ?g ?h); (case g => exact rfl)) | (with_reducible refine R.slc_l ?_) | (with_reducible refine R.slc_t ?_)
  | (with_reducible refine R.len_l ?_) | (with_reducible refine R.len_t ?_) | (with_reducible refine R.tuple_l ?_) | (with_reducible refine R.tuple_t ?_) | (with_reducible refine R.list_l ?_) | (with_reducible refine R.list_t ?_) | (with_reducible refine R.abs_i ?_) | (with_reducible refine R.int_i ?_) | (with_reducible refine R.gcd_i ?_)
  | (with_reducible refine R.isint ?_) | (with_reducible refine R.isbool ?_) | (with_reducible refine R.istuple ?_) | (with_reducible refine R.islist ?_)
  | (with_reducible refine R.sum_is ?_) | (with_reducible refine R.all_bs ?_) | ((with_reducible refine R.any_bs ?_))); (try dsimp only [List.map, List.set, Int.reduceToNat, Bool.not_true, Bool.not_false, DL.restR, DL.gt, DL.wipeR]))
theorem num_pos_iff {q : Rat} (h : 0 ≤ q) : decide (0 < q.num) = !decide (q = 0) := by
  have h0 := Rat.num_nonneg.mpr h
  rw [Bool.eq_iff_iff]
  simp only [decide_eq_true_eq, Bool.not_eq_true', decide_eq_false_iff_not]
  constructor
  · rintro a rfl; simp at a
  · intro a
    have : q.num ≠ 0 := num_ne a
    omega
theorem sorted_nats {l : List Nat} {k : KR} (hl : l.length < 64) (h : ∀ l' : List Nat, l'.Perm l → l'.Pairwise (· ≤ ·) → k (.own (l'.map fun (j : Nat) => PyData.int (j : Int)))) : biD .sorted [.list (l.map fun (j : Nat) => PyData.int (j : Int))] k := by
  have e : l.map (fun (j : Nat) => PyData.int (j : Int)) = (l.map fun (j : Nat) => (j : Int)).map .int := by simp
  rw [e]
  simp only [biD, bSorted, R.intsD_map]
  refine ⟨by simpa using hl, fun ns hp hs => ?_⟩
  have e2 : ns = (ns.map Int.toNat).map fun (j : Nat) => (j : Int) := by
    rw [List.map_map]
    have : ∀ x ∈ ns, ((fun (j : Nat) => (j : Int)) ∘ Int.toNat) x = x := fun x hx => by
      obtain ⟨j, _, rfl⟩ := List.mem_map.mp (hp.mem_iff.mp hx)
      simp
    rw [List.map_congr_left this]; simp
  have p : (ns.map Int.toNat).Perm l := by
    have := hp.map Int.toNat
    rw [List.map_map] at this
    simpa [Function.comp_def] using this
  have := h (ns.map Int.toNat) p (by
    rw [List.pairwise_map]
    exact hs.imp fun h => by omega)
  rw [List.map_map] at this
  have e3 : ns.map PyData.int = ns.map ((fun (j : Nat) => PyData.int (j : Int)) ∘ Int.toNat) := by
    refine List.map_congr_left fun x hx => ?_
    obtain ⟨j, _, rfl⟩ := List.mem_map.mp (hp.mem_iff.mp hx)
    simp
  rw [e3]; exact this
theorem wl_to {P : List FDef} [Nd P] [Has P d__law_to] {k s n u : Nat} {S : Nat → Nat → Rat} {Q E} (hS : Sheet s n S) (hu : u < n) (h : Q (.dat (.tuple ((Mx.rchL n (ed S) fun i => i == u).map fun (j : Nat) => PyData.int (j : Int)))) []) : gam P (k + 1) "_law_to" [.dat (sheetD n S), .dat (.int u)] Q E := by
  have h1 := hS.one
  have h5 := hS.most
  have e : sheetD n S = .tuple (tab n fun i => frT n (S i)) := rfl
  refine R.opn Nd.nd (Has.mem (d := d__law_to)) rfl ?_
  simp only [d__law_to, List.map, List.replicate, List.length_cons, List.length_nil, List.cons_append, List.nil_append, Nat.reduceAdd, Nat.reduceSub]
  (repeat walk_at "w1")
  rw [e]
  (repeat walk_at "w1")
  rw [tab_len]
  refine R.rng1 (by omega) (by unfold LenOk; rw [sizeLine_eq]; omega) ?_
  refine for_l (α := Nat) (σ := List Nat × Option Sl × Option Sl) (fun i => .int (i : Int)) (fun s => [some (.dat (sheetD n S)), some (.dat (.int u)), some (.own false (s.1.map fun (j : Nat) => PyData.int (j : Int))), s.2.1, s.2.2, none])
    (fun xs s => R.okSl s.2.1 = true ∧ R.okSl s.2.2 = true ∧ (∀ i ∈ s.1, i < n) ∧ s.1.Nodup ∧ Mx.laps n (ed S) s.1 xs.length = Mx.laps n (ed S) [u] n) ?_ ?_ (List.range n) ([u], none, none) ⟨rfl, rfl, by simpa using hu, by simp, by simp⟩
  · rintro i is ⟨f, x, y⟩ nx ⟨hx, hy, hf, hd, hg⟩ hn
    refine R.an_name (R.nio rfl hx) ?_
    rw [e]
    (repeat walk_at "w1")
    rw [tab_len]
    refine R.rng1 (by omega) (by unfold LenOk; rw [sizeLine_eq]; omega) ?_
    refine for_l (α := Nat) (σ := List Nat × Option Sl) (fun i => .int (i : Int)) (fun s => [some (.dat (sheetD n S)), some (.dat (.int u)), some (.own false (s.1.map fun (j : Nat) => PyData.int (j : Int))), some (.dat (.int i)), s.2, none])
      (fun js s => R.okSl s.2 = true ∧ (∀ i ∈ js, i < n) ∧ (∀ i ∈ s.1, i < n) ∧ s.1.Nodup ∧ js.foldl (Mx.put (ed S)) s.1 = Mx.lap n (ed S) f) ?_ ?_ (List.range n) (f, y) ⟨hy, fun i hi => List.mem_range.mp hi, hf, hd, rfl⟩
    · rintro j js ⟨f', y'⟩ nx' ⟨hy', hj, hf', hd', hg'⟩ hn'
      have hj' := hj j List.mem_cons_self
      have hjs : ∀ i ∈ js, i < n := fun i hi => hj i (List.mem_cons_of_mem _ hi)
      refine R.an_name (R.nio rfl hy') ?_
      rw [e]
      have lt : f'.length ≤ n := by
        have := hd'.length_le_of_subset (l₂ := List.range n) fun i hi => List.mem_range.mpr (hf' i hi)
        simpa using this
      have skip : Mx.put (ed S) f' j = f' → nx' [some (.dat (sheetD n S)), some (.dat (.int u)), some (.own false (f'.map fun (j : Nat) => PyData.int (j : Int))), some (.dat (.int i)), some (.dat (.int j)), none] := fun q =>
        hn' (f', _) ⟨rfl, hjs, hf', hd', by rw [← hg']; simp only [List.foldl]; rw [q]⟩
      rw [e] at skip
      (repeat walk_at "w1")
      refine notin_nat ?_
      refine R.iteB (fun g => ?_) fun g => ?_
      · (repeat walk_at "w1")
        refine ⟨noOwn1 rfl, ?_⟩
        simp only [wpo, wipeR]
        refine comp_l (α := Nat) (fun i => .int (i : Int)) (fun i => .bool (ed S i j)) rfl (fun _ => rfl) (by rfl) f' [] (fun i hi nx hn => ?_) ?_
        · have hi' := hf' i hi
          (repeat walk_at "w1")
          refine R.idx_t (tab_at hi') ?_
          (repeat walk_at "w1")
          simp only [frT]
          refine R.idx_t (tab_at hj') ?_
          simp only [fr]
          (repeat walk_at "w1")
          rw [num_pos_iff (hS.sub.nn i j hi' hj')]
          exact hn
        · (repeat walk_at "w1")
          refine any_l ?_
          (repeat walk_at "w1")
          refine R.iteB (fun g2 => ?_) fun g2 => ?_
          · (repeat walk_at "w1")
            refine R.app_at rfl (by rw [sizeLine_eq]; simp; omega) ?_
            have q : Mx.put (ed S) f' j = f' ++ [j] := by unfold Mx.put; rw [g, g2]; rfl
            have nm := Mx.put_nodup (e := ed S) (j := j) hd'
            rw [q] at nm
            have := hn' (f' ++ [j], some (.dat (.int j))) ⟨rfl, hjs, fun i hi => by
              rcases List.mem_append.mp hi with a | a
              · exact hf' i a
              · simp only [List.mem_singleton] at a; subst a; exact hj', nm, by rw [← hg']; simp only [List.foldl]; rw [q]⟩
            simp only [List.map_append, List.map_cons, List.map_nil] at this
            (repeat walk_at "w1")
            exact this
          · have := skip (by unfold Mx.put; rw [g, g2]; rfl)
            (repeat walk_at "w1")
            exact this
      · have := skip (by unfold Mx.put; rw [g]; rfl)
        (repeat walk_at "w1")
        exact this
    · rintro ⟨f', y'⟩ ⟨hy', _, hf', hd', hg'⟩
      have q : f' = Mx.lap n (ed S) f := hg'
      subst q
      refine hn (Mx.lap n (ed S) f, some (.dat (.int i)), y') ⟨rfl, hy', hf', hd', ?_⟩
      rw [← hg, List.length_cons]
      have : ∀ k l, Mx.laps n (ed S) (Mx.lap n (ed S) l) k = Mx.laps n (ed S) l (k + 1) := by
        intro k l
        induction k with
        | zero => rfl
        | succ k ih => simp only [Mx.laps] at ih ⊢; rw [ih]
      exact this is.length f
  · rintro ⟨f, x, y⟩ ⟨hx, hy, hf, hd, hg⟩
    have q : f = Mx.laps n (ed S) [u] n := hg
    (repeat walk_at "w1")
    refine sorted_nats ?_ fun l' hp hs => ?_
    · have := hd.length_le_of_subset (l₂ := List.range n) fun i hi => List.mem_range.mpr (hf i hi)
      simp only [List.length_range] at this
      show f.length < 64
      omega
    · (repeat walk_at "w1")
      have := Mx.laps_sorted hu (hp.trans (by show f.Perm _; rw [q])) hs
      rw [this]
      exact h
theorem wl_losses {P : List FDef} [Nd P] [Has P d__law_losses] [Has P d__law_less] [Has P d__law_frac] [Has P d__law_thin] [Has P d__law_gcd] [Has P d__law_total] [Has P d__law_add] {k s n : Nat} {S : Nat → Nat → Rat} {Q E} (hS : Sheet s n S) (h : Q (.dat (frT n fun i => 1 - Mx.sm n (S i))) []) : gam P (k + 6) "_law_losses" [.dat (sheetD n S)] Q E := by
  have h5 := hS.most
  have hb := hS.bits
  have m5 := mul5 (s := s) h5
  refine R.opn Nd.nd (Has.mem (d := d__law_losses)) rfl ?_
  simp only [d__law_losses, List.map, List.replicate, List.length_cons, List.length_nil, List.cons_append, List.nil_append, Nat.reduceAdd, Nat.reduceSub]
  simp only [sheetD]
  (repeat walk_at "w1")
  refine ⟨noOwn1 rfl, ?_⟩
  simp only [wpo, wipeR]
  refine comp_l (α := Nat) (fun i => frT n (S i)) (fun i => fr (1 - Mx.sm n (S i))) rfl (fun _ => rfl) trivial (List.range n) [] (fun i hi nx hn => ?_) ?_
  · have hi' := List.mem_range.mp hi
    (repeat walk_at "w1")
    simp only [frT]
    refine wl_total (s := s) (qs := (List.range n).map (S i)) (.inl (by rw [frT_map])) (fun q hq => ?_) ?_ ?_
    · obtain ⟨j, hj, rfl⟩ := List.mem_map.mp hq
      exact hS.sz i j hi' (List.mem_range.mp hj)
    · simp only [List.length_map, List.length_range]
      have : (n + 1) * (s + 1) = n * (s + 1) + (s + 1) := by rw [Nat.add_mul, Nat.one_mul]
      omega
    · (repeat walk_at "w1")
      rw [sumR_tab]
      refine wl_less (a := 1) sz_one (hS.szRow hi') (by omega) ?_
      (repeat walk_at "w1")
      exact hn
  · (repeat walk_at "w1")
    exact h
theorem wl_ways_out {P : List FDef} [Nd P] [Has P d__law_ways_out] [Has P d__law_losses] [Has P d__law_less] [Has P d__law_frac] [Has P d__law_thin] [Has P d__law_gcd] [Has P d__law_total] [Has P d__law_add] [Has P d__law_to] {k s n u : Nat} {S : Nat → Nat → Rat} {Q E} (hS : Sheet s n S) (hu : u < n) (h : Q (.dat (.bool (lossy n S u))) []) : gam P (k + 7) "_law_ways_out" [.dat (sheetD n S), .dat (.int u)] Q E := by
  refine R.opn Nd.nd (Has.mem (d := d__law_ways_out)) rfl ?_
  simp only [d__law_ways_out, List.map, List.replicate, List.length_cons, List.length_nil, List.cons_append, List.nil_append, Nat.reduceAdd, Nat.reduceSub]
  (repeat walk_at "w1")
  refine wl_losses hS ?_
  (repeat walk_at "w1")
  refine wl_to hS hu ?_
  (repeat walk_at "w1")
  refine ⟨noOwn1 rfl, ?_⟩
  simp only [wpo, wipeR]
  refine comp_l (α := Nat) (fun i => .int (i : Int)) (fun j => .bool (!decide (1 - Mx.sm n (S j) = 0))) rfl (fun _ => rfl) trivial _ [] (fun j hj nx hn => ?_) ?_
  · have hj' : j < n := (Mx.mem_rchL.mp hj).lt
    (repeat walk_at "w1")
    simp only [frT]
    refine R.idx_t (tab_at hj') ?_
    simp only [fr]
    (repeat walk_at "w1")
    rw [num_pos_iff (by have := hS.sub.row j hj'; grind)]
    exact hn
  · (repeat walk_at "w1")
    refine any_l ?_
    (repeat walk_at "w1")
    exact h
end Lib
namespace Lib
open PySem DL L2
local macro_rules | `(tactic| walk_at "w1") => `(tactic| (first
  | (with_reducible refine R.lit ?_) | (with_reducible refine R.con ?_)
  | ((with_reducible refine' R.var ?g ?h); (case g => exact rfl))
  | ((with_reducible refine' R.varO ?g ?h); (case g => exact rfl))
  | (with_reducible refine R.op2 ?_) | (with_reducible refine R.cmp ?_) | (with_reducible refine R.idx ?_) | (with_reducible refine R.slc ?_) | (with_reducible refine R.oN ?_) | (with_reducible refine R.oS ?_)
  | (with_reducible refine R.tcmp ?_) | (with_reducible refine R.tnot ?_) | (with_reducible refine R.tand ?_) | (with_reducible refine R.tor ?_) | (with_reducible refine R.tcall ?_) | (with_reducible refine R.tbi ?_) | (with_reducible refine R.tisN ?_) | (with_reducible refine R.tnotN ?_) | (with_reducible refine R.tchain ?_) | (with_reducible refine R.tvar ?_) | (with_reducible refine R.tcallK ?_)
  | (with_reducible refine R.isN ?_) | (with_reducible refine R.notN ?_) | (with_reducible refine R.chain ?_) | (with_reducible refine R.neg ?_) | (with_reducible refine R.not ?_) | (with_reducible refine R.and ?_) | (with_reducible refine R.or ?_) | (with_reducible refine R.ife ?_)
  | (with_reducible refine R.tup ?_) | (with_reducible refine R.lst ?_) | (with_reducible refine R.call ?_) | (with_reducible refine R.callK ?_) | (with_reducible refine R.callIo ?_) | (with_reducible refine R.bi ?_) | (with_reducible refine R.comp ?_) | (with_reducible refine R.index ?_) | (with_reducible refine R.repL ?_) | (with_reducible refine R.listR ?_)
  | (with_reducible refine R.an ?_) | (with_reducible refine R.ac ?_) | (with_reducible refine R.en ?_) | (with_reducible refine R.ec ?_) | (with_reducible refine R.ed ?_) | (with_reducible refine R.eo ?_)
  | ((with_reducible refine' R.erd ?g ?h); (case g => exact rfl)) | ((with_reducible refine' R.ero ?g ?h); (case g => exact rfl))
  | ((with_reducible refine' R.w1 ?g ?h); (case g => exact rfl)) | ((with_reducible refine' R.w2 ?g ?g' ?h); (case g => exact rfl); (case g' => exact rfl)) | ((with_reducible refine' R.ws ?g ?h); (case g => exact rfl))
  | (with_reducible refine R.fval rfl ?_) | (with_reducible refine R.f_l ?_) | (with_reducible refine R.f_t ?_) | (with_reducible refine R.ival rfl ?_) | (with_reducible refine R.i_l ?_) | (with_reducible refine R.i_t ?_) | (with_reducible refine R.i_o ?_) | ((with_reducible refine' R.i_r ?g ?h); (case g => exact rfl))
  | (with_reducible refine R.irange ?_) | (with_reducible refine R.frange ?_) | (with_reducible refine R.ienum ?_) | (with_reducible refine R.fenum ?_) | (with_reducible refine R.izip ?_) | (with_reducible refine R.fzip ?_) | (with_reducible refine R.irev ?_) | (with_reducible refine R.frev ?_) | ((with_reducible refine' R.zip_at ?g ?g' ?h); (case g => exact rfl); (case g' => exact rfl)) | (with_reducible refine R.eq_i ?_) | (with_reducible refine R.ne_i ?_) | (with_reducible refine R.sretN ?_)
  | (with_reducible refine R.sn ?_) | (with_reducible refine R.sc ?_) | (with_reducible refine R.sasg ?_) | (with_reducible refine R.spar ?_) | (with_reducible refine R.sexpr ?_) | (with_reducible refine R.sapp ?_) | (with_reducible refine R.sext ?_) | (with_reducible refine R.sret ?_) | (with_reducible refine R.site ?_) | (with_reducible refine R.sfor ?_)
  | ((with_reducible refine R.nd_ ?n ?h); (case n => first | exact R.nio rfl rfl | exact R.nio rfl (DL.NoOw.ok (by assumption)))) | ((with_reducible refine R.no_ ?n ?h); (case n => first | exact R.nio rfl rfl | exact R.nio rfl (DL.NoOw.ok (by assumption)))) | ((with_reducible refine R.nr_ ?n ?h); (case n => first | exact R.nio rfl rfl | exact R.nio rfl (DL.NoOw.ok (by assumption))))
  | ((with_reducible refine' R.an_name ?n ?h); (case n => first | assumption | exact R.nio rfl rfl | exact R.nio rfl (DL.NoOw.ok (by assumption)))) | ((with_reducible refine' R.an_two ?n ?m ?h); (case n => first | assumption | exact R.nio rfl rfl | exact R.nio rfl (DL.NoOw.ok (by assumption))); (case m => first | assumption | exact R.nio rfl rfl | exact R.nio rfl (DL.NoOw.ok (by assumption)))) | ((with_reducible refine' R.an_three ?n ?m ?o ?h); (case n => first | assumption | exact R.nio rfl rfl | exact R.nio rfl (DL.NoOw.ok (by assumption))); (case m => first | assumption | exact R.nio rfl rfl | exact R.nio rfl (DL.NoOw.ok (by assumption))); (case o => first | assumption | exact R.nio rfl rfl | exact R.nio rfl (DL.NoOw.ok (by assumption)))) | (with_reducible refine R.tt rfl ?_) | (with_reducible refine R.tn ?_) | (with_reducible refine R.tc ?_) | (with_reducible refine R.subd ?_) | ((with_reducible refine' R.own_and ?g ?h); (case g => exact rfl)) | ((with_reducible refine' R.put_at ?g ?g' ?h); (case g => exact rfl); (case g' => exact rfl)) | ((with_reducible refine' R.io_ref ?g ?h); (case g => exact rfl)) | (with_reducible refine R.io_own ?_) | (with_reducible refine R.one_1 ?_) | (with_reducible refine R.setn ?_) | (with_reducible refine R.setd ?_) | (with_reducible refine R.seto ?_) | (with_reducible refine R.setr ?_)
  | ((with_reducible refine' R.find ?g ?h); (case g => exact rfl)) | ((with_reducible refine' R.fino ?g ?h); (case g => exact rfl)) | ((with_reducible refine' R.finr ?g ?g' ?h); (case g => exact rfl); (case g' => exact rfl)) | ((with_reducible refine' R.find' ?g ?g' ?h); (case g => exact rfl); (case g' => exact rfl))
  | (with_reducible refine R.ifT ?_) | (with_reducible refine R.ifF ?_)
  | ((with_reducible refine' R.pow_i ?g ?h); (case g => decide)) | ((with_reducible refine' R.mul_i ?g ?h); (case g => exact mulOk 60 60 (by omega) (by omega) (by decide))) | ((with_reducible refine' R.fdiv_i ?g ?h); (case g => exact divOk (by omega) (by omega))) | ((with_reducible refine' R.mod_i ?g ?h); (case g => omega))
  | (with_reducible refine R.add_i ?_) | (with_reducible refine R.sub_i ?_) | (with_reducible refine R.lt_i ?_) | (with_reducible refine R.le_i ?_) | (with_reducible refine R.gt_i ?_) | (with_reducible refine R.ge_i ?_)
  | ((with_reducible refine' R.idx_l ?g ?h); (case g => exact rfl)) | ((with_reducible refine' R.idx_t ?g ?h); (case g => exact rfl)) | (with_reducible refine R.slc_l ?_) | (with_reducible refine R.slc_t ?_)
  | (with_reducible refine R.len_l ?_) | (with_reducible refine R.len_t ?_) | (with_reducible refine R.tuple_l ?_) | (with_reducible refine R.tuple_t ?_) | (with_reducible refine R.list_l ?_) | (with_reducible refine R.list_t ?_) | (with_reducible refine R.abs_i ?_) | (with_reducible refine R.int_i ?_) | (with_reducible refine R.gcd_i ?_)
  | (with_reducible refine R.isint ?_) | (with_reducible refine R.isbool ?_) | (with_reducible refine R.istuple ?_) | (with_reducible refine R.islist ?_)
  | (with_reducible refine R.sum_is ?_) | (with_reducible refine R.all_bs ?_) | ((with_reducible refine R.any_bs ?_))); (try dsimp only [List.map, List.set, Int.reduceToNat, Bool.not_true, Bool.not_false, DL.restR, DL.gt, DL.wipeR]))
theorem sh_fr {q : Rat} {s : Nat} (h : Sz s q) (hs : s ≤ 1920) : Sh 1 3852 (fr q) := by
  have h2 := h.mono hs
  have := sh_tup (e := 0) (L := 1922) (xs := [.int q.num, .int (q.den : Int)]) fun x hx => by
    simp only [List.mem_cons, List.not_mem_nil, or_false] at hx
    rcases hx with rfl | rfl
    · exact sh_int h2.1
    · exact sh_int (by simpa using h2.2)
  exact this
theorem sh_nats {l : List Nat} (h : ∀ i ∈ l, i < 1000) : Sh 1 (l.length * 1924 + 4) (.tuple (l.map fun (j : Nat) => PyData.int (j : Int))) := by
  have := sh_tup (e := 0) (L := 1922) (xs := l.map fun (j : Nat) => PyData.int (j : Int)) fun x hx => by
    obtain ⟨j, hj, rfl⟩ := List.mem_map.mp hx
    have := h j hj
    exact sh_int (Nat.lt_of_lt_of_le (m := 2 ^ 10) (by simp; omega) (Nat.pow_le_pow_right (by omega) (by omega)))
  rwa [List.length_map] at this
def d_lawN (n : Int) : FDef := ⟨"law", ["script"], ["script", "turn"], [.ret (.bi .all [.comp (.callIo "_law_right" (.call "_law_tap" [.var 0, .var 1]) []) (.name 1) (.range [.lit (.int n)]) none [1]])]⟩
theorem law_ok {P : List FDef} [Nd P] [Has P d__law_tap] {N : Nat} [Has P (d_lawN N)] (hN : N ≤ 10) {k : Nat} (hr : ∀ (xs : List D) (Q : Rs → List (List D) → Prop) (E : Xn → Prop), Tap 0 xs → (∀ ys, Q (.dat (.bool true)) [ys]) → gam P (k + 1) "_law_right" [.own true xs] Q E) : IsScript (gam P (k + 2) "law") 63 := by
  intro ns hl
  refine R.opn Nd.nd (Has.mem (d := d_lawN N)) rfl ?_
  simp only [d_lawN, List.map, List.replicate, List.length_cons, List.length_nil, List.cons_append, List.nil_append, Nat.reduceAdd, Nat.reduceSub]
  (repeat walk_at "w1")
  refine R.rng1 (by omega) (by unfold LenOk; rw [sizeLine_eq]; omega) ?_
  refine ⟨noOwn1 rfl, ?_⟩
  simp only [wpo, wipeR]
  refine comp_l (α := Nat) (fun i => .int (i : Int)) (fun i => .bool true) rfl (fun _ => rfl) trivial _ [] (fun j hj nx hn => ?_) ?_
  · have hj' := List.mem_range.mp hj
    (repeat walk_at "w1")
    refine w_tap hl (by omega) (by omega) fun a b h1 h2 h3 => ?_
    (repeat walk_at "w1")
    refine hr _ _ _ ⟨a, b, 0, rfl, h1, h2, h3, by omega, by omega⟩ fun ys => ?_
    (repeat walk_at "w1")
    exact hn
  · (repeat walk_at "w1")
    refine all_l (f := fun _ => true) ?_
    have : (List.range (N : Int).toNat).all (fun _ => true) = true := by simp
    rw [this]
    (repeat walk_at "w1")
end Lib
namespace Lib
open PySem DL L2
local macro_rules | `(tactic| walk_at "w1") => `(tactic| (first
  | (with_reducible refine R.lit ?_) | (with_reducible refine R.con ?_)
  | ((with_reducible refine' R.var ?g ?h); (case g => exact rfl))
  | ((with_reducible refine' R.varO ?g ?h); (case g => exact rfl))
  | (with_reducible refine R.op2 ?_) | (with_reducible refine R.cmp ?_) | (with_reducible refine R.idx ?_) | (with_reducible refine R.slc ?_) | (with_reducible refine R.oN ?_) | (with_reducible refine R.oS ?_)
  | (with_reducible refine R.tcmp ?_) | (with_reducible refine R.tnot ?_) | (with_reducible refine R.tand ?_) | (with_reducible refine R.tor ?_) | (with_reducible refine R.tcall ?_) | (with_reducible refine R.tbi ?_) | (with_reducible refine R.tisN ?_) | (with_reducible refine R.tnotN ?_) | (with_reducible refine R.tchain ?_) | (with_reducible refine R.tvar ?_) | (with_reducible refine R.tcallK ?_)
  | (with_reducible refine R.isN ?_) | (with_reducible refine R.notN ?_) | (with_reducible refine R.chain ?_) | (with_reducible refine R.neg ?_) | (with_reducible refine R.not ?_) | (with_reducible refine R.and ?_) | (with_reducible refine R.or ?_) | (with_reducible refine R.ife ?_)
  | (with_reducible refine R.tup ?_) | (with_reducible refine R.lst ?_) | (with_reducible refine R.call ?_) | (with_reducible refine R.callK ?_) | (with_reducible refine R.callIo ?_) | (with_reducible refine R.bi ?_) | (with_reducible refine R.comp ?_) | (with_reducible refine R.index ?_) | (with_reducible refine R.repL ?_) | (with_reducible refine R.listR ?_)
  | (with_reducible refine R.an ?_) | (with_reducible refine R.ac ?_) | (with_reducible refine R.en ?_) | (with_reducible refine R.ec ?_) | (with_reducible refine R.ed ?_) | (with_reducible refine R.eo ?_)
  | ((with_reducible refine' R.erd ?g ?h); (case g => exact rfl)) | ((with_reducible refine' R.ero ?g ?h); (case g => exact rfl))
  | ((with_reducible refine' R.w1 ?g ?h); (case g => exact rfl)) | ((with_reducible refine' R.w2 ?g ?g' ?h); (case g => exact rfl); (case g' => exact rfl)) | ((with_reducible refine' R.ws ?g ?h); (case g => exact rfl))
  | (with_reducible refine R.fval rfl ?_) | (with_reducible refine R.f_l ?_) | (with_reducible refine R.f_t ?_) | (with_reducible refine R.ival rfl ?_) | (with_reducible refine R.i_l ?_) | (with_reducible refine R.i_t ?_) | (with_reducible refine R.i_o ?_) | ((with_reducible refine' R.i_r ?g ?h); (case g => exact rfl))
  | (with_reducible refine R.irange ?_) | (with_reducible refine R.frange ?_) | (with_reducible refine R.ienum ?_) | (with_reducible refine R.fenum ?_) | (with_reducible refine R.izip ?_) | (with_reducible refine R.fzip ?_) | (with_reducible refine R.irev ?_) | (with_reducible refine R.frev ?_) | ((with_reducible refine' R.zip_at ?g ?g' ?h); (case g => exact rfl); (case g' => exact rfl)) | (with_reducible refine R.eq_i ?_) | (with_reducible refine R.ne_i ?_) | (with_reducible refine R.sretN ?_)
  | (with_reducible refine R.sn ?_) | (with_reducible refine R.sc ?_) | (with_reducible refine R.sasg ?_) | (with_reducible refine R.spar ?_) | (with_reducible refine R.sexpr ?_) | (with_reducible refine R.sapp ?_) | (with_reducible refine R.sext ?_) | (with_reducible refine R.sret ?_) | (with_reducible refine R.site ?_) | (with_reducible refine R.sfor ?_)
  | ((with_reducible refine R.nd_ ?n ?h); (case n => first | exact R.nio rfl rfl | exact R.nio rfl (DL.NoOw.ok (by assumption)))) | ((with_reducible refine R.no_ ?n ?h); (case n => first | exact R.nio rfl rfl | exact R.nio rfl (DL.NoOw.ok (by assumption)))) | ((with_reducible refine R.nr_ ?n ?h); (case n => first | exact R.nio rfl rfl | exact R.nio rfl (DL.NoOw.ok (by assumption))))
  | ((with_reducible refine' R.an_name ?n ?h); (case n => first | assumption | exact R.nio rfl rfl | exact R.nio rfl (DL.NoOw.ok (by assumption)))) | ((with_reducible refine' R.an_two ?n ?m ?h); (case n => first | assumption | exact R.nio rfl rfl | exact R.nio rfl (DL.NoOw.ok (by assumption))); (case m => first | assumption | exact R.nio rfl rfl | exact R.nio rfl (DL.NoOw.ok (by assumption)))) | ((with_reducible refine' R.an_three ?n ?m ?o ?h); (case n => first | assumption | exact R.nio rfl rfl | exact R.nio rfl (DL.NoOw.ok (by assumption))); (case m => first | assumption | exact R.nio rfl rfl | exact R.nio rfl (DL.NoOw.ok (by assumption))); (case o => first | assumption | exact R.nio rfl rfl | exact R.nio rfl (DL.NoOw.ok (by assumption)))) | (with_reducible refine R.tt rfl ?_) | (with_reducible refine R.tn ?_) | (with_reducible refine R.tc ?_) | (with_reducible refine R.subd ?_) | ((with_reducible refine' R.own_and ?g ?h); (case g => exact rfl)) | ((with_reducible refine' R.put_at ?g ?g' ?h); (case g => exact rfl); (case g' => exact rfl)) | ((with_reducible refine' R.io_ref ?g ?h); (case g => exact rfl)) | (with_reducible refine R.io_own ?_) | (with_reducible refine R.one_1 ?_) | (with_reducible refine R.setn ?_) | (with_reducible refine R.setd ?_) | (with_reducible refine R.seto ?_) | (with_reducible refine R.setr ?_)
  | ((with_reducible refine' R.find ?g ?h); (case g => exact rfl)) | ((with_reducible refine' R.fino ?g ?h); (case g => exact rfl)) | ((with_reducible refine' R.finr ?g ?g' ?h); (case g => exact rfl); (case g' => exact rfl)) | ((with_reducible refine' R.find' ?g ?g' ?h); (case g => exact rfl); (case g' => exact rfl))
  | (with_reducible refine R.ifT ?_) | (with_reducible refine R.ifF ?_)
  | ((with_reducible refine' R.pow_i ?g ?h); (case g => decide)) | ((with_reducible refine' R.mul_i ?g ?h); (case g => exact mulOk 60 60 (by omega) (by omega) (by decide))) | ((with_reducible refine' R.fdiv_i ?g ?h); (case g => exact divOk (by omega) (by omega))) | ((with_reducible refine' R.mod_i ?g ?h); (case g => omega))
  | (with_reducible refine R.add_i ?_) | (with_reducible refine R.sub_i ?_) | (with_reducible refine R.lt_i ?_) | (with_reducible refine R.le_i ?_) | (with_reducible refine R.gt_i ?_) | (with_reducible refine R.ge_i ?_)
  | ((with_reducible refine' R.idx_l ?g ?h); (case g => exact rfl)) | ((with_reducible refine' R.idx_t ?g ?h); (case g => exact rfl)) | (with_reducible refine R.slc_l ?_) | (with_reducible refine R.slc_t ?_)
  | (with_reducible refine R.len_l ?_) | (with_reducible refine R.len_t ?_) | (with_reducible refine R.tuple_l ?_) | (with_reducible refine R.tuple_t ?_) | (with_reducible refine R.list_l ?_) | (with_reducible refine R.list_t ?_) | (with_reducible refine R.abs_i ?_) | (with_reducible refine R.int_i ?_) | (with_reducible refine R.gcd_i ?_)
  | (with_reducible refine R.isint ?_) | (with_reducible refine R.isbool ?_) | (with_reducible refine R.istuple ?_) | (with_reducible refine R.islist ?_)
  | (with_reducible refine R.sum_is ?_) | (with_reducible refine R.all_bs ?_) | ((with_reducible refine R.any_bs ?_))); (try dsimp only [List.map, List.set, Int.reduceToNat, Bool.not_true, Bool.not_false, DL.restR, DL.gt, DL.wipeR]))
/-- a loop over 0 .. n - 1 -/
theorem for_rng {σ : Type} {g : D → Rho → (Rho → Prop) → Prop} {b : DEn → Rho → Prop} {d : DEn} {n : Nat} (st : σ → Rho) (I : Nat → σ → Prop)
    (hs : ∀ a s nx, a < n → I a s → (∀ s', I (a + 1) s' → nx (st s')) → g (.int (a : Int)) (st s) fun ρ1 => b { nx := nx, ct := nx, bk := d.nx, rt := d.rt } ρ1)
    (hn : ∀ s, I n s → d.nx (st s)) (s : σ) (h : I 0 s) : forL g b d ((List.range n).map fun (i : Nat) => PyData.int (i : Int)) (st s) := by
  rw [List.range_eq_range']
  have key : ∀ k a s, a + k = n → I a s → forL g b d ((List.range' a k).map fun (i : Nat) => PyData.int (i : Int)) (st s) := by
    intro k
    induction k with
    | zero => intro a s e h; have : a = n := by omega
              subst this; exact hn s h
    | succ k ih =>
      intro a s e h
      rw [List.range'_succ, List.map_cons]
      exact hs a s _ (by omega) h fun s' h' => ih (a + 1) s' (by omega) h'
  exact key n 0 s (by omega) h
def matL (m : Nat) (A : Nat → Nat → Rat) : List D := tab m fun i => .list (tab (m + 1) fun j => fr (A i j))
theorem swp_row {m p q : Nat} {A : Nat → Nat → Rat} {F : (Nat → Rat) → D} : (tab m fun j => if j = q then F (A p) else if j = p then F (A q) else F (A j)) = tab m fun j => F (Mx.swp A p q j) := by
  congr 1
  funext j
  unfold Mx.swp
  by_cases a : j = q
  · subst a
    rw [if_pos rfl]
    by_cases b : j = p
    · subst b; rw [if_pos rfl]
    · rw [if_neg b, if_pos rfl]
  · rw [if_neg a]
    by_cases b : j = p
    · rw [if_pos b, if_pos b]
    · rw [if_neg b, if_neg b, if_neg a]
theorem two_pow_succ' (m : Nat) : 2 ^ (m + 1) = 2 ^ m + 2 ^ m := by rw [Nat.pow_succ]; omega
/-- the rows while they are changed -/
def mid (A : Nat → Nat → Rat) (p q a : Nat) : Nat → Nat → Rat := fun i => if i = p ∨ i < a then Mx.elm A p q i else Mx.swp A p q i
end Lib
namespace Lib
open PySem DL L2
local macro_rules | `(tactic| walk_at "w1") => `(tactic| (first
  | (with_reducible refine R.lit ?_) | (with_reducible refine R.con ?_)
  | ((with_reducible refine' R.var ?g ?h); (case g => exact rfl))
  | ((with_reducible refine' R.varO ?g ?h); (case g => exact rfl))
  | (with_reducible refine R.op2 ?_) | (with_reducible refine R.cmp ?_) | (with_reducible refine R.idx ?_) | (with_reducible refine R.slc ?_) | (with_reducible refine R.oN ?_) | (with_reducible refine R.oS ?_)
  | (with_reducible refine R.tcmp ?_) | (with_reducible refine R.tnot ?_) | (with_reducible refine R.tand ?_) | (with_reducible refine R.tor ?_) | (with_reducible refine R.tcall ?_) | (with_reducible refine R.tbi ?_) | (with_reducible refine R.tisN ?_) | (with_reducible refine R.tnotN ?_) | (with_reducible refine R.tchain ?_) | (with_reducible refine R.tvar ?_) | (with_reducible refine R.tcallK ?_)
  | (with_reducible refine R.isN ?_) | (with_reducible refine R.notN ?_) | (with_reducible refine R.chain ?_) | (with_reducible refine R.neg ?_) | (with_reducible refine R.not ?_) | (with_reducible refine R.and ?_) | (with_reducible refine R.or ?_) | (with_reducible refine R.ife ?_)
  | (with_reducible refine R.tup ?_) | (with_reducible refine R.lst ?_) | (with_reducible refine R.call ?_) | (with_reducible refine R.callK ?_) | (with_reducible refine R.callIo ?_) | (with_reducible refine R.bi ?_) | (with_reducible refine R.comp ?_) | (with_reducible refine R.index ?_) | (with_reducible refine R.repL ?_) | (with_reducible refine R.listR ?_)
  | (with_reducible refine R.an ?_) | (with_reducible refine R.ac ?_) | (with_reducible refine R.en ?_) | (with_reducible refine R.ec ?_) | (with_reducible refine R.ed ?_) | (with_reducible refine R.eo ?_)
  | ((with_reducible refine' R.erd ?g ?h); (case g => exact rfl)) | ((with_reducible refine' R.ero ?g ?h); (case g => exact rfl))
  | ((with_reducible refine' R.w1 ?g ?h); (case g => exact rfl)) | ((with_reducible refine' R.w2 ?g ?g' ?h); (case g => exact rfl); (case g' => exact rfl)) | ((with_reducible refine' R.ws ?g ?h); (case g => exact rfl))
  | (with_reducible refine R.fval rfl ?_) | (with_reducible refine R.f_l ?_) | (with_reducible refine R.f_t ?_) | (with_reducible refine R.ival rfl ?_) | (with_reducible refine R.i_l ?_) | (with_reducible refine R.i_t ?_) | (with_reducible refine R.i_o ?_) | ((with_reducible refine' R.i_r ?g ?h); (case g => exact rfl))
  | (with_reducible refine R.irange ?_) | (with_reducible refine R.frange ?_) | (with_reducible refine R.ienum ?_) | (with_reducible refine R.fenum ?_) | (with_reducible refine R.izip ?_) | (with_reducible refine R.fzip ?_) | (with_reducible refine R.irev ?_) | (with_reducible refine R.frev ?_) | ((with_reducible refine' R.zip_at ?g ?g' ?h); (case g => exact rfl); (case g' => exact rfl)) | (with_reducible refine R.eq_i ?_) | (with_reducible refine R.ne_i ?_) | (with_reducible refine R.sretN ?_)
  | (with_reducible refine R.sn ?_) | (with_reducible refine R.sc ?_) | (with_reducible refine R.sasg ?_) | (with_reducible refine R.spar ?_) | (with_reducible refine R.sexpr ?_) | (with_reducible refine R.sapp ?_) | (with_reducible refine R.sext ?_) | (with_reducible refine R.sret ?_) | (with_reducible refine R.site ?_) | (with_reducible refine R.sfor ?_)
  | ((with_reducible refine R.nd_ ?n ?h); (case n => first | exact R.nio rfl rfl | exact R.nio rfl (DL.NoOw.ok (by assumption)))) | ((with_reducible refine R.no_ ?n ?h); (case n => first | exact R.nio rfl rfl | exact R.nio rfl (DL.NoOw.ok (by assumption)))) | ((with_reducible refine R.nr_ ?n ?h); (case n => first | exact R.nio rfl rfl | exact R.nio rfl (DL.NoOw.ok (by assumption))))
  | ((with_reducible refine' R.an_name ?n ?h); (case n => first | assumption | exact R.nio rfl rfl | exact R.nio rfl (DL.NoOw.ok (by assumption)))) | ((with_reducible refine' R.an_two ?n ?m ?h); (case n => first | assumption | exact R.nio rfl rfl | exact R.nio rfl (DL.NoOw.ok (by assumption))); (case m => first | assumption | exact R.nio rfl rfl | exact R.nio rfl (DL.NoOw.ok (by assumption)))) | ((with_reducible refine' R.an_three ?n ?m ?o ?h); (case n => first | assumption | exact R.nio rfl rfl | exact R.nio rfl (DL.NoOw.ok (by assumption))); (case m => first | assumption | exact R.nio rfl rfl | exact R.nio rfl (DL.NoOw.ok (by assumption))); (case o => first | assumption | exact R.nio rfl rfl | exact R.nio rfl (DL.NoOw.ok (by assumption)))) | (with_reducible refine R.tt rfl ?_) | (with_reducible refine R.tn ?_) | (with_reducible refine R.tc ?_) | (with_reducible refine R.subd ?_) | ((with_reducible refine' R.own_and ?g ?h); (case g => exact rfl)) | ((with_reducible refine' R.put_at ?g ?g' ?h); (case g => exact rfl); (case g' => exact rfl)) | ((with_reducible refine' R.io_ref ?g ?h); (case g => exact rfl)) | (with_reducible refine R.io_own ?_) | (with_reducible refine R.one_1 ?_) | (with_reducible refine R.setn ?_) | (with_reducible refine R.setd ?_) | (with_reducible refine R.seto ?_) | (with_reducible refine R.setr ?_)
  | ((with_reducible refine' R.find ?g ?h); (case g => exact rfl)) | ((with_reducible refine' R.fino ?g ?h); (case g => exact rfl)) | ((with_reducible refine' R.finr ?g ?g' ?h); (case g => exact rfl); (case g' => exact rfl)) | ((with_reducible refine' R.find' ?g ?g' ?h); (case g => exact rfl); (case g' => exact rfl))
  | (with_reducible refine R.ifT ?_) | (with_reducible refine R.ifF ?_)
  | ((with_reducible refine' R.pow_i ?g ?h); (case g => decide)) | ((with_reducible refine' R.mul_i ?g ?h); (case g => exact mulOk 60 60 (by omega) (by omega) (by decide))) | ((with_reducible refine' R.fdiv_i ?g ?h); (case g => exact divOk (by omega) (by omega))) | ((with_reducible refine' R.mod_i ?g ?h); (case g => omega))
  | (with_reducible refine R.add_i ?_) | (with_reducible refine R.sub_i ?_) | (with_reducible refine R.lt_i ?_) | (with_reducible refine R.le_i ?_) | (with_reducible refine R.gt_i ?_) | (with_reducible refine R.ge_i ?_)
  | ((with_reducible refine' R.idx_l ?g ?h); (case g => exact rfl)) | ((with_reducible refine' R.idx_t ?g ?h); (case g => exact rfl)) | (with_reducible refine R.slc_l ?_) | (with_reducible refine R.slc_t ?_)
  | (with_reducible refine R.len_l ?_) | (with_reducible refine R.len_t ?_) | (with_reducible refine R.tuple_l ?_) | (with_reducible refine R.tuple_t ?_) | (with_reducible refine R.list_l ?_) | (with_reducible refine R.list_t ?_) | (with_reducible refine R.abs_i ?_) | (with_reducible refine R.int_i ?_) | (with_reducible refine R.gcd_i ?_)
  | (with_reducible refine R.isint ?_) | (with_reducible refine R.isbool ?_) | (with_reducible refine R.istuple ?_) | (with_reducible refine R.islist ?_)
  | (with_reducible refine R.sum_is ?_) | (with_reducible refine R.all_bs ?_) | ((with_reducible refine R.any_bs ?_))); (try dsimp only [List.map, List.set, Int.reduceToNat, Bool.not_true, Bool.not_false, DL.restR, DL.gt, DL.wipeR]))
theorem for_rngE {σ : Type} {g : D → Rho → (Rho → Prop) → Prop} {b : DEn → Rho → Prop} {d : DEn} {n : Nat} (emb : Nat → D) (st : σ → Rho) (I : Nat → σ → Prop)
    (hs : ∀ a s nx, a < n → I a s → (∀ s', I (a + 1) s' → nx (st s')) → g (emb a) (st s) fun ρ1 => b { nx := nx, ct := nx, bk := d.nx, rt := d.rt } ρ1)
    (hn : ∀ s, I n s → d.nx (st s)) (s : σ) (h : I 0 s) : forL g b d (tab n emb) (st s) := by
  unfold tab
  rw [List.range_eq_range']
  have key : ∀ k a s, a + k = n → I a s → forL g b d ((List.range' a k).map emb) (st s) := by
    intro k
    induction k with
    | zero => intro a s e h; have : a = n := by omega
              subst this; exact hn s h
    | succ k ih =>
      intro a s e h
      rw [List.range'_succ, List.map_cons]
      exact hs a s _ (by omega) h fun s' h' => ih (a + 1) s' (by omega) h'
  exact key n 0 s (by omega) h
theorem w_kept_part {P : List FDef} [Nd P] [Has P d_kept_part] [Has P d_minus] [Has P d_ratio] [Has P d_lowest] [Has P d_divisor_of] {k s n i j : Nat} {S : Nat → Nat → Rat} {Q E} (hS : Sheet s n S) (hi : i < n) (hj : j < n) (h : Q (.dat (fr ((if i = j then 1 else 0) - S i j))) []) : gam P (k + 5) "kept_part" [.dat (sheetD n S), .dat (.int i), .dat (.int j)] Q E := by
  have hb := hS.bits
  refine R.opn Nd.nd (Has.mem (d := d_kept_part)) rfl ?_
  simp only [d_kept_part, List.map, List.replicate, List.length_cons, List.length_nil, List.cons_append, List.nil_append, Nat.reduceAdd, Nat.reduceSub]
  simp only [sheetD]
  (repeat walk_at "w1")
  refine R.iteD (fun g => ?_) fun g => ?_
  · have g : i = j := by omega
    rw [if_pos g] at h
    (repeat walk_at "w1")
    refine R.idx_t (tab_at hi) ?_
    (repeat walk_at "w1")
    simp only [frT]
    refine R.idx_t (tab_at hj) ?_
    (repeat walk_at "w1")
    refine w_minus (a := 1) sz_one (hS.sz i j hi hj) (by omega) ?_
    (repeat walk_at "w1")
    exact h
  · have g : i ≠ j := by omega
    rw [if_neg g] at h
    (repeat walk_at "w1")
    refine R.idx_t (tab_at hi) ?_
    (repeat walk_at "w1")
    simp only [frT]
    refine R.idx_t (tab_at hj) ?_
    (repeat walk_at "w1")
    refine w_minus (a := 0) sz_zero (hS.sz i j hi hj) (by omega) ?_
    (repeat walk_at "w1")
    exact h
theorem w_check_amounts {P : List FDef} [Nd P] [Has P d_check_amounts] [Has P d_is_ratio] [Has P d_are_wholes] [Has P d_is_whole] [Has P d_divisor_of] {k n : Nat} {a : Nat → Rat} {Q E} (h0 : ∀ i, i < n → 0 ≤ a i) (h : Q (.dat .none) []) : gam P (k + 4) "check_amounts" [.dat (frT n a), .dat (.int n)] Q E := by
  refine R.opn Nd.nd (Has.mem (d := d_check_amounts)) rfl ?_
  simp only [d_check_amounts, List.map, List.replicate, List.length_cons, List.length_nil, List.cons_append, List.nil_append, Nat.reduceAdd, Nat.reduceSub]
  simp only [frT]
  (repeat walk_at "w1")
  refine R.ifF ?_
  (repeat walk_at "w1")
  rw [tab_len]
  refine R.iteN (fun g => absurd rfl g) fun _ => ?_
  (repeat walk_at "w1")
  rw [tab_enum]
  refine for_rngE (n := n) (σ := Option Sl × Option Sl) (fun i => .tuple [.int i, fr (a i)]) (fun s => [some (.dat (frT n a)), some (.dat (.int n)), s.1, s.2]) (fun i s => NoOw s.1 ∧ NoOw s.2) ?_ ?_ (none, none) ⟨.n, .n⟩
  · rintro i ⟨x, y⟩ nx hi ⟨hx, hy⟩ hn
    simp only at hx hy
    refine R.an_two (R.nio rfl hx.ok) (R.nio rfl hy.ok) ?_
    (repeat walk_at "w1")
    refine w_is_ratio ?_
    (repeat walk_at "w1")
    refine R.ifF ?_
    simp only [fr]
    (repeat walk_at "w1")
    have := Rat.num_nonneg.mpr (h0 i hi)
    refine R.iteD (fun g => absurd g (by omega)) fun _ => ?_
    (repeat walk_at "w1")
    exact hn (_, _) ⟨.d, .d⟩
  · rintro ⟨x, y⟩ ⟨hx, hy⟩
    (repeat walk_at "w1")
    exact h
/-! ### who is fed -/
def has (a : Nat → Rat) (i : Nat) : Bool := !decide (a i = 0)
noncomputable def fedL (n : Nat) (S : Nat → Nat → Rat) (a : Nat → Rat) : List Nat := Mx.rchL n (ed S) (has a)
theorem rch_congr {n : Nat} {e : Nat → Nat → Bool} {U V : Nat → Bool} (h : ∀ i, i < n → U i = V i) {j : Nat} : Mx.Rch n e U j ↔ Mx.Rch n e V j := by
  constructor
  · intro r
    induction r with
    | base hj u => exact .base hj (by rw [← h _ hj]; exact u)
    | step _ hj q ih => exact ih.step hj q
  · intro r
    induction r with
    | base hj u => exact .base hj (by rw [h _ hj]; exact u)
    | step _ hj q ih => exact ih.step hj q
theorem rchL_congr {n : Nat} {e : Nat → Nat → Bool} {U V : Nat → Bool} (h : ∀ i, i < n → U i = V i) : Mx.rchL n e U = Mx.rchL n e V := by
  refine List.filter_congr fun j _ => ?_
  have := rch_congr (e := e) h (j := j)
  rw [Bool.eq_iff_iff, @decide_eq_true_iff _ (Classical.propDecidable _), @decide_eq_true_iff _ (Classical.propDecidable _), this]
theorem rch_one {n : Nat} {e : Nat → Nat → Bool} {U : Nat → Bool} {j : Nat} : Mx.Rch n e U j ↔ ∃ k, k < n ∧ U k = true ∧ Mx.Rch n e (fun i => i == k) j := by
  constructor
  · intro r
    induction r with
    | @base j hj u => exact ⟨j, hj, u, .base hj (by simp)⟩
    | step _ hj q ih => obtain ⟨k, a, b, c⟩ := ih; exact ⟨k, a, b, c.step hj q⟩
  · rintro ⟨k, a, b, c⟩
    exact c.trans fun i hi z => by
      have : i = k := by simpa using z
      subst this; exact .base hi b
theorem lossy_out {s n u : Nat} {S : Nat → Nat → Rat} (hS : Sheet s n S) (hu : u < n) (h : lossy n S u = true) : Mx.Out n S u := by
  unfold lossy at h
  obtain ⟨j, hj, e⟩ := List.any_eq_true.mp h
  have r := Mx.mem_rchL.mp hj
  have hl : Mx.sm n (S j) < 1 := by
    have := hS.sub.row j r.lt
    simp only [Bool.not_eq_true', decide_eq_false_iff_not] at e
    grind
  have key : ∀ j, Mx.Rch n (ed S) (fun i => i == u) j → Mx.Out n S j → Mx.Out n S u := by
    intro j r
    induction r with
    | @base j hj q =>
      have : j = u := by simpa using q
      subst this; exact id
    | @step i j r hj q ih =>
      intro o
      exact ih (.step r.lt hj (by simpa [ed] using q) o)
  exact key j r (.loss r.lt hl)
/-! ### common denominators -/
structure Den (c n : Nat) (S : Nat → Nat → Rat) : Prop where
  ex : ∃ (N : Nat → Nat → Int) (u : Nat → Nat), ∀ i, i < n → 0 < u i ∧ u i < 2 ^ c ∧ ∀ j, j < n → 0 ≤ N i j ∧ N i j ≤ u i ∧ S i j = (N i j : Rat) / ((u i : Int) : Rat)
structure Am (t n : Nat) (a : Nat → Rat) : Prop where
  nn : ∀ i, i < n → 0 ≤ a i
  sz : ∀ i, i < n → Sz t (a i)
theorem Net.den {n : Nat} {S : Nat → Nat → Rat} (h : Net n S) : Den 9 n S := by
  have hS := h.sheet
  refine ⟨fun i j => if hi : i < n then (Classical.choose (h.row i hi)) j else 0, fun i => if hi : i < n then Classical.choose (Classical.choose_spec (h.row i hi)) else 1, fun i hi => ?_⟩
  simp only [dif_pos hi]
  have r := Classical.choose_spec (Classical.choose_spec (h.row i hi))
  generalize Classical.choose (Classical.choose_spec (h.row i hi)) = u at r ⊢
  have := r.u1
  have := r.u2
  refine ⟨by omega, by omega, fun j hj => ⟨r.n0 j hj, ?_, ?_⟩⟩
  · have l1 := hS.le1 hi hj
    rw [r.eq j hj, Rat.mkRat_eq_div] at l1
    have u0 : (0 : Rat) < (u : Rat) := by exact_mod_cast r.u1
    have : ((Classical.choose (h.row i hi) j : Int) : Rat) ≤ (u : Rat) := by
      have := Rat.mul_le_mul_of_nonneg_right l1 (Rat.le_of_lt u0)
      rw [Rat.div_mul_cancel (Rat.ne_of_gt u0), Rat.one_mul] at this
      exact this
    exact_mod_cast this
  · rw [r.eq j hj, Rat.mkRat_eq_div]; rfl
theorem fed_bits {c t n m : Nat} {S : Nat → Nat → Rat} {a : Nat → Rat} {F : Nat → Nat} (hD : Den c n S) (ha : Am t n a) (hF : ∀ k, k < m → F k < n) :
    ∃ w : Nat → Int, (∀ j, j ≤ m → w j ≠ 0 ∧ (w j).natAbs < 2 ^ (c + 1)) ∧ Mx.Bits m w (c + 1 + t) (Mx.fedA m F S a) := by
  obtain ⟨N, u, h⟩ := hD.ex
  refine ⟨fun j => if j < m then (u (F j) : Int) else 1, fun j hj => ?_, ⟨fun k l => if l < m then ((if F l = F k then (u (F l) : Int) else 0) - N (F l) (F k)) * ((a (F k)).den : Int) else (a (F k)).num, fun k => ((a (F k)).den : Int), fun k hk => ?_⟩⟩
  · by_cases g : j < m
    · obtain ⟨h1, h2, _⟩ := h (F j) (hF j g)
      have : 2 ^ (c + 1) = 2 ^ c + 2 ^ c := two_pow_succ' c
      simp only [if_pos g]
      omega
    · have := Nat.one_lt_two_pow (n := c + 1) (by omega)
      simp only [if_neg g]
      omega
  · have sz := ha.sz (F k) (hF k hk)
    have dp := (a (F k)).den_pos
    refine ⟨by show ((a (F k)).den : Int) ≠ 0; omega, Nat.lt_of_lt_of_le (by simpa using sz.2) (Nat.pow_le_pow_right (by omega) (by omega)), fun l hl => ?_⟩
    have dn : (((a (F k)).den : Int) : Rat) ≠ 0 := Mx.cast_ne (by omega)
    unfold Mx.fedA
    by_cases g : l < m
    · simp only [if_pos g]
      obtain ⟨h1, h2, h3⟩ := h (F l) (hF l g)
      obtain ⟨n0, n1, e⟩ := h3 (F k) (hF k hk)
      refine ⟨?_, ?_⟩
      · refine Mx.natAbs_mul_lt ?_ (by simpa using sz.2)
        have : 2 ^ (c + 1) = 2 ^ c + 2 ^ c := two_pow_succ' c
        split <;> omega
      · have un : (((u (F l)) : Int) : Rat) ≠ 0 := Mx.cast_ne (by omega)
        rw [e, Rat.intCast_mul, Rat.intCast_sub]
        have e1 : (((if F l = F k then ((u (F l) : Nat) : Int) else 0 : Int)) : Rat) = (if F l = F k then 1 else 0) * (((u (F l) : Nat) : Int) : Rat) := by
          split
          · rw [Rat.one_mul]
          · rw [Rat.zero_mul]; rfl
        rw [e1]
        generalize (if F l = F k then (1 : Rat) else 0) = δ
        generalize (((a (F k)).den : Int) : Rat) = d at *
        generalize (((u (F l) : Nat) : Int) : Rat) = v at *
        generalize ((N (F l) (F k) : Int) : Rat) = x at *
        clear e1 e h3
        grind
    · simp only [if_neg g]
      refine ⟨Nat.lt_of_lt_of_le sz.1 (Nat.pow_le_pow_right (by omega) (by omega)), ?_⟩
      have := (Rat.mkRat_eq_div (a (F k)).num (a (F k)).den).symm.trans (Rat.mkRat_self (a (F k)))
      have e2 : ((1 : Int) : Rat) = 1 := rfl
      rw [e2, Rat.mul_one]
      exact this.symm
/-- the fed ones, by place -/
noncomputable def fd (n : Nat) (S : Nat → Nat → Rat) (a : Nat → Rat) (k : Nat) : Nat := (fedL n S a).getD k 0
section
variable {n : Nat} {S : Nat → Nat → Rat} {a : Nat → Rat}
theorem fed_mem {i : Nat} : i ∈ fedL n S a ↔ Mx.Rch n (ed S) (has a) i := Mx.mem_rchL
theorem fd_mem {k : Nat} (hk : k < (fedL n S a).length) : fd n S a k ∈ fedL n S a := by
  unfold fd
  rw [List.getD_eq_getElem?_getD, List.getElem?_eq_getElem hk]
  exact List.getElem_mem _
theorem fd_lt {k : Nat} (hk : k < (fedL n S a).length) : fd n S a k < n := (fed_mem.mp (fd_mem hk)).lt
theorem fed_nodup : (fedL n S a).Nodup := List.nodup_range.sublist List.filter_sublist
theorem fd_inj {k l : Nat} (hk : k < (fedL n S a).length) (hl : l < (fedL n S a).length) (e : fd n S a k = fd n S a l) : k = l := by
  unfold fd at e
  rw [List.getD_eq_getElem?_getD, List.getD_eq_getElem?_getD, List.getElem?_eq_getElem hk, List.getElem?_eq_getElem hl] at e
  rcases Nat.lt_trichotomy k l with g | g | g
  · exact absurd e (List.pairwise_iff_getElem.mp fed_nodup k l _ _ g)
  · exact g
  · exact absurd e.symm (List.pairwise_iff_getElem.mp fed_nodup l k _ _ g)
theorem fd_surj {i : Nat} (h : Mx.Rch n (ed S) (has a) i) : ∃ k, k < (fedL n S a).length ∧ fd n S a k = i := by
  obtain ⟨k, hk, e⟩ := List.getElem_of_mem (fed_mem.mpr h)
  exact ⟨k, hk, by unfold fd; rw [List.getD_eq_getElem?_getD, List.getElem?_eq_getElem hk]; exact e⟩
theorem fed_tab {α : Type} (f : Nat → α) : (fedL n S a).map f = (List.range (fedL n S a).length).map fun k => f (fd n S a k) := by
  apply List.ext_getElem
  · simp
  · intro k h1 h2
    simp only [List.length_map] at h1
    simp [fd, List.getD_eq_getElem?_getD, h1]
theorem fed_len : (fedL n S a).length ≤ n := by
  have := List.length_filter_le (fun j => @decide (Mx.Rch n (ed S) (has a) j) (Classical.propDecidable _)) (List.range n)
  rw [List.length_range] at this
  exact this
theorem fed_closed {i j : Nat} (hj : j < n) (h : Mx.Rch n (ed S) (has a) i) (q : S i j ≠ 0) : Mx.Rch n (ed S) (has a) j := h.step hj (by simpa [ed] using q)
theorem fed_zero {i : Nat} (hi : i < n) (h : ¬ Mx.Rch n (ed S) (has a) i) : a i = 0 := Classical.byContradiction fun z => h (.base hi (by simpa [has] using z))
end
/-- whether all that is fed reaches a loss -/
noncomputable def fine (n : Nat) (S : Nat → Nat → Rat) (a : Nat → Rat) : Bool := (fedL n S a).all fun i => lossy n S i
abbrev FlowX (n : Nat) (S : Nat → Nat → Rat) (a X : Nat → Rat) : Prop := Mx.Flow n S (fun i => Mx.Rch n (ed S) (has a) i) a X
theorem fine_out {s n : Nat} {S : Nat → Nat → Rat} {a : Nat → Rat} (hS : Sheet s n S) (h : fine n S a = true) : ∀ i, i < n → Mx.Rch n (ed S) (has a) i → Mx.Out n S i := fun i hi r =>
  lossy_out hS hi (List.all_eq_true.mp h i (fed_mem.mpr r))
theorem rep_tab {x : D} : ∀ {m : Nat}, (List.replicate m [x]).flatten = tab m fun _ => x := by
  intro m
  unfold tab
  apply List.ext_getElem
  · simp
  · intro i h1 h2
    simp
theorem tab_snoc {m : Nat} {g : Nat → D} : tab (m + 1) g = tab m g ++ [g m] := by
  unfold tab
  rw [List.range_succ, List.map_append]; rfl
theorem ext_step {m k : Nat} {F : Nat → Nat} {x : Nat → Rat} (hk : k < m) (inj : ∀ k l, k < m → l < m → F k = F l → k = l) (i : Nat) : (if i = F k then x k else Mx.ext k F x i) = Mx.ext (k + 1) F x i := by
  have e : Mx.ext (k + 1) F x i = Mx.ext k F x i + (if F k = i then x k else 0) := rfl
  rw [e]
  by_cases g : i = F k
  · subst g
    rw [if_pos rfl, if_pos rfl, Mx.ext_off fun l hl e => by have := inj l k (by omega) hk e; omega]
    grind
  · rw [if_neg g, if_neg fun z => g z.symm]; grind
end Lib
namespace Lib
open PySem DL L2
local macro_rules | `(tactic| walk_at "w1") => `(tactic| (first
  | (with_reducible refine R.lit ?_) | (with_reducible refine R.con ?_)
  | ((with_reducible refine' R.var ?g ?h); (case g => exact rfl))
  | ((with_reducible refine' R.varO ?g ?h); (case g => exact rfl))
  | (with_reducible refine R.op2 ?_) | (with_reducible refine R.cmp ?_) | (with_reducible refine R.idx ?_) | (with_reducible refine R.slc ?_) | (with_reducible refine R.oN ?_) | (with_reducible refine R.oS ?_)
  | (with_reducible refine R.tcmp ?_) | (with_reducible refine R.tnot ?_) | (with_reducible refine R.tand ?_) | (with_reducible refine R.tor ?_) | (with_reducible refine R.tcall ?_) | (with_reducible refine R.tbi ?_) | (with_reducible refine R.tisN ?_) | (with_reducible refine R.tnotN ?_) | (with_reducible refine R.tchain ?_) | (with_reducible refine R.tvar ?_) | (with_reducible refine R.tcallK ?_)
  | (with_reducible refine R.isN ?_) | (with_reducible refine R.notN ?_) | (with_reducible refine R.chain ?_) | (with_reducible refine R.neg ?_) | (with_reducible refine R.not ?_) | (with_reducible refine R.and ?_) | (with_reducible refine R.or ?_) | (with_reducible refine R.ife ?_)
  | (with_reducible refine R.tup ?_) | (with_reducible refine R.lst ?_) | (with_reducible refine R.call ?_) | (with_reducible refine R.callK ?_) | (with_reducible refine R.callIo ?_) | (with_reducible refine R.bi ?_) | (with_reducible refine R.comp ?_) | (with_reducible refine R.index ?_) | (with_reducible refine R.repL ?_) | (with_reducible refine R.listR ?_)
  | (with_reducible refine R.an ?_) | (with_reducible refine R.ac ?_) | (with_reducible refine R.en ?_) | (with_reducible refine R.ec ?_) | (with_reducible refine R.ed ?_) | (with_reducible refine R.eo ?_)
  | ((with_reducible refine' R.erd ?g ?h); (case g => exact rfl)) | ((with_reducible refine' R.ero ?g ?h); (case g => exact rfl))
  | ((with_reducible refine' R.w1 ?g ?h); (case g => exact rfl)) | ((with_reducible refine' R.w2 ?g ?g' ?h); (case g => exact rfl); (case g' => exact rfl)) | ((with_reducible refine' R.ws ?g ?h); (case g => exact rfl))
  | (with_reducible refine R.fval rfl ?_) | (with_reducible refine R.f_l ?_) | (with_reducible refine R.f_t ?_) | (with_reducible refine R.ival rfl ?_) | (with_reducible refine R.i_l ?_) | (with_reducible refine R.i_t ?_) | (with_reducible refine R.i_o ?_) | ((with_reducible refine' R.i_r ?g ?h); (case g => exact rfl))
  | (with_reducible refine R.irange ?_) | (with_reducible refine R.frange ?_) | (with_reducible refine R.ienum ?_) | (with_reducible refine R.fenum ?_) | (with_reducible refine R.izip ?_) | (with_reducible refine R.fzip ?_) | (with_reducible refine R.irev ?_) | (with_reducible refine R.frev ?_) | ((with_reducible refine' R.zip_at ?g ?g' ?h); (case g => exact rfl); (case g' => exact rfl)) | (with_reducible refine R.eq_i ?_) | (with_reducible refine R.ne_i ?_) | (with_reducible refine R.sretN ?_)
  | (with_reducible refine R.sn ?_) | (with_reducible refine R.sc ?_) | (with_reducible refine R.sasg ?_) | (with_reducible refine R.spar ?_) | (with_reducible refine R.sexpr ?_) | (with_reducible refine R.sapp ?_) | (with_reducible refine R.sext ?_) | (with_reducible refine R.sret ?_) | (with_reducible refine R.site ?_) | (with_reducible refine R.sfor ?_)
  | ((with_reducible refine R.nd_ ?n ?h); (case n => first | exact R.nio rfl rfl | exact R.nio rfl (DL.NoOw.ok (by assumption)))) | ((with_reducible refine R.no_ ?n ?h); (case n => first | exact R.nio rfl rfl | exact R.nio rfl (DL.NoOw.ok (by assumption)))) | ((with_reducible refine R.nr_ ?n ?h); (case n => first | exact R.nio rfl rfl | exact R.nio rfl (DL.NoOw.ok (by assumption))))
  | ((with_reducible refine' R.an_name ?n ?h); (case n => first | assumption | exact R.nio rfl rfl | exact R.nio rfl (DL.NoOw.ok (by assumption)))) | ((with_reducible refine' R.an_two ?n ?m ?h); (case n => first | assumption | exact R.nio rfl rfl | exact R.nio rfl (DL.NoOw.ok (by assumption))); (case m => first | assumption | exact R.nio rfl rfl | exact R.nio rfl (DL.NoOw.ok (by assumption)))) | ((with_reducible refine' R.an_three ?n ?m ?o ?h); (case n => first | assumption | exact R.nio rfl rfl | exact R.nio rfl (DL.NoOw.ok (by assumption))); (case m => first | assumption | exact R.nio rfl rfl | exact R.nio rfl (DL.NoOw.ok (by assumption))); (case o => first | assumption | exact R.nio rfl rfl | exact R.nio rfl (DL.NoOw.ok (by assumption)))) | (with_reducible refine R.tt rfl ?_) | (with_reducible refine R.tn ?_) | (with_reducible refine R.tc ?_) | (with_reducible refine R.subd ?_) | ((with_reducible refine' R.own_and ?g ?h); (case g => exact rfl)) | ((with_reducible refine' R.put_at ?g ?g' ?h); (case g => exact rfl); (case g' => exact rfl)) | ((with_reducible refine' R.io_ref ?g ?h); (case g => exact rfl)) | (with_reducible refine R.io_own ?_) | (with_reducible refine R.one_1 ?_) | (with_reducible refine R.setn ?_) | (with_reducible refine R.setd ?_) | (with_reducible refine R.seto ?_) | (with_reducible refine R.setr ?_)
  | ((with_reducible refine' R.find ?g ?h); (case g => exact rfl)) | ((with_reducible refine' R.fino ?g ?h); (case g => exact rfl)) | ((with_reducible refine' R.finr ?g ?g' ?h); (case g => exact rfl); (case g' => exact rfl)) | ((with_reducible refine' R.find' ?g ?g' ?h); (case g => exact rfl); (case g' => exact rfl))
  | (with_reducible refine R.ifT ?_) | (with_reducible refine R.ifF ?_)
  | ((with_reducible refine' R.pow_i ?g ?h); (case g => decide)) | ((with_reducible refine' R.mul_i ?g ?h); (case g => exact mulOk 60 60 (by omega) (by omega) (by decide))) | ((with_reducible refine' R.fdiv_i ?g ?h); (case g => exact divOk (by omega) (by omega))) | ((with_reducible refine' R.mod_i ?g ?h); (case g => omega))
  | (with_reducible refine R.add_i ?_) | (with_reducible refine R.sub_i ?_) | (with_reducible refine R.lt_i ?_) | (with_reducible refine R.le_i ?_) | (with_reducible refine R.gt_i ?_) | (with_reducible refine R.ge_i ?_)
  | ((with_reducible refine' R.idx_l ?g ?h); (case g => exact rfl)) | ((with_reducible refine' R.idx_t ?g ?h); (case g => exact rfl)) | (with_reducible refine R.slc_l ?_) | (with_reducible refine R.slc_t ?_)
  | (with_reducible refine R.len_l ?_) | (with_reducible refine R.len_t ?_) | (with_reducible refine R.tuple_l ?_) | (with_reducible refine R.tuple_t ?_) | (with_reducible refine R.list_l ?_) | (with_reducible refine R.list_t ?_) | (with_reducible refine R.abs_i ?_) | (with_reducible refine R.int_i ?_) | (with_reducible refine R.gcd_i ?_)
  | (with_reducible refine R.isint ?_) | (with_reducible refine R.isbool ?_) | (with_reducible refine R.istuple ?_) | (with_reducible refine R.islist ?_)
  | (with_reducible refine R.sum_is ?_) | (with_reducible refine R.all_bs ?_) | ((with_reducible refine R.any_bs ?_))); (try dsimp only [List.map, List.set, Int.reduceToNat, Bool.not_true, Bool.not_false, DL.restR, DL.gt, DL.wipeR]))
open Classical in
/-- the least steady flow -/
noncomputable def flowOf (n : Nat) (S : Nat → Nat → Rat) (a : Nat → Rat) : Nat → Rat := if h : ∃ X, FlowX n S a X then Classical.choose h else fun _ => 0
section
variable {s n c t : Nat} {S : Nat → Nat → Rat} {a : Nat → Rat}
theorem flow_same (hS : Sheet s n S) (g : fine n S a = true) {X : Nat → Rat} (f : FlowX n S a X) : ∀ i, i < n → X i = flowOf n S a i := by
  have h : ∃ X, FlowX n S a X := ⟨X, f⟩
  have : flowOf n S a = Classical.choose h := by unfold flowOf; rw [dif_pos h]
  rw [this]
  exact Mx.Flow.unique hS.sub (fine_out hS g) f (Classical.choose_spec h)
end
noncomputable def flowD (n : Nat) (S : Nat → Nat → Rat) (a : Nat → Rat) : D := if fine n S a = true then frT n (flowOf n S a) else .none
theorem frT_congr {n : Nat} {f g : Nat → Rat} (h : ∀ i, i < n → f i = g i) : frT n f = frT n g := by
  unfold frT
  rw [tab_congr fun i hi => by rw [h i hi]]
theorem w_amount {P : List FDef} [Nd P] [Has P d__law_amount] [Has P d__law_of] [Has P d__law_drop] [Has P d__law_frac] [Has P d__law_thin] [Has P d__law_gcd] {k m : Nat} {xs : List D} {Q E} (hx : Tap m xs) (hm : m < 900000) (h : ∀ (ys : List D) (q : Rat), Tap (m + 4) ys → 0 < q → Sz 9 q → Q (.dat (fr q)) [ys]) : gam P (k + 4) "_law_amount" [.own true xs] Q E := by
  refine R.opn Nd.nd (Has.mem (d := d__law_amount)) rfl ?_
  simp only [d__law_amount, List.map, List.replicate, List.length_cons, List.length_nil, List.cons_append, List.nil_append, Nat.reduceAdd, Nat.reduceSub]
  (repeat walk_at "w1")
  refine w_of (ys := [2, 3, 5, 9, 9, 400].map PyData.int) hx (by omega) (.inl rfl) (by simp) (by simp) fun zs y hz hy => ?_
  obtain ⟨v, hv, rfl⟩ := int_cases hy
  (repeat walk_at "w1")
  refine w_of (ys := [1, 1, 2, 5, 9, 400].map PyData.int) hz (by omega) (.inl rfl) (by simp) (by simp) fun us y hu hy2 => ?_
  obtain ⟨w, hw, rfl⟩ := int_cases hy2
  (repeat walk_at "w1")
  simp at hv hw
  refine w_dropT hu (by omega) (by omega) (by omega) fun as i ha hi => ?_
  (repeat walk_at "w1")
  refine w_dropT ha (by omega) (by omega) (by omega) fun bs j hb hj => ?_
  (repeat walk_at "w1")
  have e1 : (1 : Int) + (i : Int) = ((1 + i : Nat) : Int) := by omega
  have e2 : (1 : Int) + (j : Int) = ((1 + j : Nat) : Int) := by omega
  rw [e1, e2]
  refine w_frac (by omega) (Nat.lt_of_lt_of_le (m := 2 ^ 9) (by omega) (Nat.pow_le_pow_right (by omega) (by omega))) ?_
  (repeat walk_at "w1")
  refine h bs _ hb ?_ (sz_mk _ _ _ (by omega) (by omega) (by omega))
  have nn := mkRat_nonneg' (a := ((1 + i : Nat) : Int)) (u := 1 + j) (by omega)
  have ne : mkRat ((1 + i : Nat) : Int) (1 + j) ≠ 0 := by
    rw [Ne, Rat.mkRat_eq_zero (by omega)]; omega
  grind
end Lib
namespace Lib
open PySem DL L2
local macro_rules | `(tactic| walk_at "w1") => `(tactic| (first
  | (with_reducible refine R.lit ?_) | (with_reducible refine R.con ?_)
  | ((with_reducible refine' R.var ?g ?h); (case g => exact rfl))
  | ((with_reducible refine' R.varO ?g ?h); (case g => exact rfl))
  | (with_reducible refine R.op2 ?_) | (with_reducible refine R.cmp ?_) | (with_reducible refine R.idx ?_) | (with_reducible refine R.slc ?_) | (with_reducible refine R.oN ?_) | (with_reducible refine R.oS ?_)
  | (with_reducible refine R.tcmp ?_) | (with_reducible refine R.tnot ?_) | (with_reducible refine R.tand ?_) | (with_reducible refine R.tor ?_) | (with_reducible refine R.tcall ?_) | (with_reducible refine R.tbi ?_) | (with_reducible refine R.tisN ?_) | (with_reducible refine R.tnotN ?_) | (with_reducible refine R.tchain ?_) | (with_reducible refine R.tvar ?_) | (with_reducible refine R.tcallK ?_)
  | (with_reducible refine R.isN ?_) | (with_reducible refine R.notN ?_) | (with_reducible refine R.chain ?_) | (with_reducible refine R.neg ?_) | (with_reducible refine R.not ?_) | (with_reducible refine R.and ?_) | (with_reducible refine R.or ?_) | (with_reducible refine R.ife ?_)
  | (with_reducible refine R.tup ?_) | (with_reducible refine R.lst ?_) | (with_reducible refine R.call ?_) | (with_reducible refine R.callK ?_) | (with_reducible refine R.callIo ?_) | (with_reducible refine R.bi ?_) | (with_reducible refine R.comp ?_) | (with_reducible refine R.index ?_) | (with_reducible refine R.repL ?_) | (with_reducible refine R.listR ?_)
  | (with_reducible refine R.an ?_) | (with_reducible refine R.ac ?_) | (with_reducible refine R.en ?_) | (with_reducible refine R.ec ?_) | (with_reducible refine R.ed ?_) | (with_reducible refine R.eo ?_)
  | ((with_reducible refine' R.erd ?g ?h); (case g => exact rfl)) | ((with_reducible refine' R.ero ?g ?h); (case g => exact rfl))
  | ((with_reducible refine' R.w1 ?g ?h); (case g => exact rfl)) | ((with_reducible refine' R.w2 ?g ?g' ?h); (case g => exact rfl); (case g' => exact rfl)) | ((with_reducible refine' R.ws ?g ?h); (case g => exact rfl))
  | (with_reducible refine R.fval rfl ?_) | (with_reducible refine R.f_l ?_) | (with_reducible refine R.f_t ?_) | (with_reducible refine R.ival rfl ?_) | (with_reducible refine R.i_l ?_) | (with_reducible refine R.i_t ?_) | (with_reducible refine R.i_o ?_) | ((with_reducible refine' R.i_r ?g ?h); (case g => exact rfl))
  | (with_reducible refine R.irange ?_) | (with_reducible refine R.frange ?_) | (with_reducible refine R.ienum ?_) | (with_reducible refine R.fenum ?_) | (with_reducible refine R.izip ?_) | (with_reducible refine R.fzip ?_) | (with_reducible refine R.irev ?_) | (with_reducible refine R.frev ?_) | ((with_reducible refine' R.zip_at ?g ?g' ?h); (case g => exact rfl); (case g' => exact rfl)) | (with_reducible refine R.eq_i ?_) | (with_reducible refine R.ne_i ?_) | (with_reducible refine R.sretN ?_)
  | (with_reducible refine R.sn ?_) | (with_reducible refine R.sc ?_) | (with_reducible refine R.sasg ?_) | (with_reducible refine R.spar ?_) | (with_reducible refine R.sexpr ?_) | (with_reducible refine R.sapp ?_) | (with_reducible refine R.sext ?_) | (with_reducible refine R.sret ?_) | (with_reducible refine R.site ?_) | (with_reducible refine R.sfor ?_)
  | ((with_reducible refine R.nd_ ?n ?h); (case n => first | exact R.nio rfl rfl | exact R.nio rfl (DL.NoOw.ok (by assumption)))) | ((with_reducible refine R.no_ ?n ?h); (case n => first | exact R.nio rfl rfl | exact R.nio rfl (DL.NoOw.ok (by assumption)))) | ((with_reducible refine R.nr_ ?n ?h); (case n => first | exact R.nio rfl rfl | exact R.nio rfl (DL.NoOw.ok (by assumption))))
  | ((with_reducible refine' R.an_name ?n ?h); (case n => first | assumption | exact R.nio rfl rfl | exact R.nio rfl (DL.NoOw.ok (by assumption)))) | ((with_reducible refine' R.an_two ?n ?m ?h); (case n => first | assumption | exact R.nio rfl rfl | exact R.nio rfl (DL.NoOw.ok (by assumption))); (case m => first | assumption | exact R.nio rfl rfl | exact R.nio rfl (DL.NoOw.ok (by assumption)))) | ((with_reducible refine' R.an_three ?n ?m ?o ?h); (case n => first | assumption | exact R.nio rfl rfl | exact R.nio rfl (DL.NoOw.ok (by assumption))); (case m => first | assumption | exact R.nio rfl rfl | exact R.nio rfl (DL.NoOw.ok (by assumption))); (case o => first | assumption | exact R.nio rfl rfl | exact R.nio rfl (DL.NoOw.ok (by assumption)))) | (with_reducible refine R.tt rfl ?_) | (with_reducible refine R.tn ?_) | (with_reducible refine R.tc ?_) | (with_reducible refine R.subd ?_) | ((with_reducible refine' R.own_and ?g ?h); (case g => exact rfl)) | ((with_reducible refine' R.put_at ?g ?g' ?h); (case g => exact rfl); (case g' => exact rfl)) | ((with_reducible refine' R.io_ref ?g ?h); (case g => exact rfl)) | (with_reducible refine R.io_own ?_) | (with_reducible refine R.one_1 ?_) | (with_reducible refine R.setn ?_) | (with_reducible refine R.setd ?_) | (with_reducible refine R.seto ?_) | (with_reducible refine R.setr ?_)
  | ((with_reducible refine' R.find ?g ?h); (case g => exact rfl)) | ((with_reducible refine' R.fino ?g ?h); (case g => exact rfl)) | ((with_reducible refine' R.finr ?g ?g' ?h); (case g => exact rfl); (case g' => exact rfl)) | ((with_reducible refine' R.find' ?g ?g' ?h); (case g => exact rfl); (case g' => exact rfl))
  | (with_reducible refine R.ifT ?_) | (with_reducible refine R.ifF ?_)
  | ((with_reducible refine' R.pow_i ?g ?h); (case g => decide)) | ((with_reducible refine' R.mul_i ?g ?h); (case g => exact mulOk 60 60 (by omega) (by omega) (by decide))) | ((with_reducible refine' R.fdiv_i ?g ?h); (case g => exact divOk (by omega) (by omega))) | ((with_reducible refine' R.mod_i ?g ?h); (case g => omega))
  | (with_reducible refine R.add_i ?_) | (with_reducible refine R.sub_i ?_) | (with_reducible refine R.lt_i ?_) | (with_reducible refine R.le_i ?_) | (with_reducible refine R.gt_i ?_) | (with_reducible refine R.ge_i ?_)
  | ((with_reducible refine' R.idx_l ?g ?h); (case g => exact rfl)) | ((with_reducible refine' R.idx_t ?g ?h); (case g => exact rfl)) | (with_reducible refine R.slc_l ?_) | (with_reducible refine R.slc_t ?_)
  | (with_reducible refine R.len_l ?_) | (with_reducible refine R.len_t ?_) | (with_reducible refine R.tuple_l ?_) | (with_reducible refine R.tuple_t ?_) | (with_reducible refine R.list_l ?_) | (with_reducible refine R.list_t ?_) | (with_reducible refine R.abs_i ?_) | (with_reducible refine R.int_i ?_) | (with_reducible refine R.gcd_i ?_)
  | (with_reducible refine R.isint ?_) | (with_reducible refine R.isbool ?_) | (with_reducible refine R.istuple ?_) | (with_reducible refine R.islist ?_)
  | (with_reducible refine R.sum_is ?_) | (with_reducible refine R.all_bs ?_) | ((with_reducible refine R.any_bs ?_))); (try dsimp only [List.map, List.set, Int.reduceToNat, Bool.not_true, Bool.not_false, DL.restR, DL.gt, DL.wipeR]))
theorem num_ne_iff {q : Rat} : decide (q.num = 0) = decide (q = 0) := by
  rw [decide_eq_decide]; exact Rat.num_eq_zero
theorem atI_neg1 {n : Nat} {f : Nat → D} : atI (tab (n + 1) f) (-1) = some (f n) := by rw [tab_snoc]; exact atI_last _ _
end Lib
namespace Lib
open PySem DL L2
local macro_rules | `(tactic| walk_at "w1") => `(tactic| (first
  | (with_reducible refine R.lit ?_) | (with_reducible refine R.con ?_)
  | ((with_reducible refine' R.var ?g ?h); (case g => exact rfl))
  | ((with_reducible refine' R.varO ?g ?h); (case g => exact rfl))
  | (with_reducible refine R.op2 ?_) | (with_reducible refine R.cmp ?_) | (with_reducible refine R.idx ?_) | (with_reducible refine R.slc ?_) | (with_reducible refine R.oN ?_) | (with_reducible refine R.oS ?_)
  | (with_reducible refine R.tcmp ?_) | (with_reducible refine R.tnot ?_) | (with_reducible refine R.tand ?_) | (with_reducible refine R.tor ?_) | (with_reducible refine R.tcall ?_) | (with_reducible refine R.tbi ?_) | (with_reducible refine R.tisN ?_) | (with_reducible refine R.tnotN ?_) | (with_reducible refine R.tchain ?_) | (with_reducible refine R.tvar ?_) | (with_reducible refine R.tcallK ?_)
  | (with_reducible refine R.isN ?_) | (with_reducible refine R.notN ?_) | (with_reducible refine R.chain ?_) | (with_reducible refine R.neg ?_) | (with_reducible refine R.not ?_) | (with_reducible refine R.and ?_) | (with_reducible refine R.or ?_) | (with_reducible refine R.ife ?_)
  | (with_reducible refine R.tup ?_) | (with_reducible refine R.lst ?_) | (with_reducible refine R.call ?_) | (with_reducible refine R.callK ?_) | (with_reducible refine R.callIo ?_) | (with_reducible refine R.bi ?_) | (with_reducible refine R.comp ?_) | (with_reducible refine R.index ?_) | (with_reducible refine R.repL ?_) | (with_reducible refine R.listR ?_)
  | (with_reducible refine R.an ?_) | (with_reducible refine R.ac ?_) | (with_reducible refine R.en ?_) | (with_reducible refine R.ec ?_) | (with_reducible refine R.ed ?_) | (with_reducible refine R.eo ?_)
  | ((with_reducible refine' R.erd ?g ?h); (case g => exact rfl)) | ((with_reducible refine' R.ero ?g ?h); (case g => exact rfl))
  | ((with_reducible refine' R.w1 ?g ?h); (case g => exact rfl)) | ((with_reducible refine' R.w2 ?g ?g' ?h); (case g => exact rfl); (case g' => exact rfl)) | ((with_reducible refine' R.ws ?g ?h); (case g => exact rfl))
  | (with_reducible refine R.fval rfl ?_) | (with_reducible refine R.f_l ?_) | (with_reducible refine R.f_t ?_) | (with_reducible refine R.ival rfl ?_) | (with_reducible refine R.i_l ?_) | (with_reducible refine R.i_t ?_) | (with_reducible refine R.i_o ?_) | ((with_reducible refine' R.i_r ?g ?h); (case g => exact rfl))
  | (with_reducible refine R.irange ?_) | (with_reducible refine R.frange ?_) | (with_reducible refine R.ienum ?_) | (with_reducible refine R.fenum ?_) | (with_reducible refine R.izip ?_) | (with_reducible refine R.fzip ?_) | (with_reducible refine R.irev ?_) | (with_reducible refine R.frev ?_) | ((with_reducible refine' R.zip_at ?g ?g' ?h); (case g => exact rfl); (case g' => exact rfl)) | (with_reducible refine R.eq_i ?_) | (with_reducible refine R.ne_i ?_) | (with_reducible refine R.sretN ?_)
  | (with_reducible refine R.sn ?_) | (with_reducible refine R.sc ?_) | (with_reducible refine R.sasg ?_) | (with_reducible refine R.spar ?_) | (with_reducible refine R.sexpr ?_) | (with_reducible refine R.sapp ?_) | (with_reducible refine R.sext ?_) | (with_reducible refine R.sret ?_) | (with_reducible refine R.site ?_) | (with_reducible refine R.sfor ?_)
  | ((with_reducible refine R.nd_ ?n ?h); (case n => first | exact R.nio rfl rfl | exact R.nio rfl (DL.NoOw.ok (by assumption)))) | ((with_reducible refine R.no_ ?n ?h); (case n => first | exact R.nio rfl rfl | exact R.nio rfl (DL.NoOw.ok (by assumption)))) | ((with_reducible refine R.nr_ ?n ?h); (case n => first | exact R.nio rfl rfl | exact R.nio rfl (DL.NoOw.ok (by assumption))))
  | ((with_reducible refine' R.an_name ?n ?h); (case n => first | assumption | exact R.nio rfl rfl | exact R.nio rfl (DL.NoOw.ok (by assumption)))) | ((with_reducible refine' R.an_two ?n ?m ?h); (case n => first | assumption | exact R.nio rfl rfl | exact R.nio rfl (DL.NoOw.ok (by assumption))); (case m => first | assumption | exact R.nio rfl rfl | exact R.nio rfl (DL.NoOw.ok (by assumption)))) | ((with_reducible refine' R.an_three ?n ?m ?o ?h); (case n => first | assumption | exact R.nio rfl rfl | exact R.nio rfl (DL.NoOw.ok (by assumption))); (case m => first | assumption | exact R.nio rfl rfl | exact R.nio rfl (DL.NoOw.ok (by assumption))); (case o => first | assumption | exact R.nio rfl rfl | exact R.nio rfl (DL.NoOw.ok (by assumption)))) | (with_reducible refine R.tt rfl ?_) | (with_reducible refine R.tn ?_) | (with_reducible refine R.tc ?_) | (with_reducible refine R.subd ?_) | ((with_reducible refine' R.own_and ?g ?h); (case g => exact rfl)) | ((with_reducible refine' R.put_at ?g ?g' ?h); (case g => exact rfl); (case g' => exact rfl)) | ((with_reducible refine' R.io_ref ?g ?h); (case g => exact rfl)) | (with_reducible refine R.io_own ?_) | (with_reducible refine R.one_1 ?_) | (with_reducible refine R.setn ?_) | (with_reducible refine R.setd ?_) | (with_reducible refine R.seto ?_) | (with_reducible refine R.setr ?_)
  | ((with_reducible refine' R.find ?g ?h); (case g => exact rfl)) | ((with_reducible refine' R.fino ?g ?h); (case g => exact rfl)) | ((with_reducible refine' R.finr ?g ?g' ?h); (case g => exact rfl); (case g' => exact rfl)) | ((with_reducible refine' R.find' ?g ?g' ?h); (case g => exact rfl); (case g' => exact rfl))
  | (with_reducible refine R.ifT ?_) | (with_reducible refine R.ifF ?_)
  | ((with_reducible refine' R.pow_i ?g ?h); (case g => decide)) | ((with_reducible refine' R.mul_i ?g ?h); (case g => exact mulOk 60 60 (by omega) (by omega) (by decide))) | ((with_reducible refine' R.fdiv_i ?g ?h); (case g => exact divOk (by omega) (by omega))) | ((with_reducible refine' R.mod_i ?g ?h); (case g => omega))
  | (with_reducible refine R.add_i ?_) | (with_reducible refine R.sub_i ?_) | (with_reducible refine R.lt_i ?_) | (with_reducible refine R.le_i ?_) | (with_reducible refine R.gt_i ?_) | (with_reducible refine R.ge_i ?_)
  | ((with_reducible refine' R.idx_l ?g ?h); (case g => exact rfl)) | ((with_reducible refine' R.idx_t ?g ?h); (case g => exact rfl)) | (with_reducible refine R.slc_l ?_) | (with_reducible refine R.slc_t ?_)
  | (with_reducible refine R.len_l ?_) | (with_reducible refine R.len_t ?_) | (with_reducible refine R.tuple_l ?_) | (with_reducible refine R.tuple_t ?_) | (with_reducible refine R.list_l ?_) | (with_reducible refine R.list_t ?_) | (with_reducible refine R.abs_i ?_) | (with_reducible refine R.int_i ?_) | (with_reducible refine R.gcd_i ?_)
  | (with_reducible refine R.isint ?_) | (with_reducible refine R.isbool ?_) | (with_reducible refine R.istuple ?_) | (with_reducible refine R.islist ?_)
  | (with_reducible refine R.sum_is ?_) | (with_reducible refine R.all_bs ?_) | ((with_reducible refine R.any_bs ?_))); (try dsimp only [List.map, List.set, Int.reduceToNat, Bool.not_true, Bool.not_false, DL.restR, DL.gt, DL.wipeR]))
noncomputable abbrev rcL (n : Nat) (S : Nat → Nat → Rat) (u : Nat) : List Nat := Mx.rchL n (ed S) fun i => i == u
theorem isin_tup {j : Nat} {l : List Nat} {kb : Bool → Prop} (hl : ∀ i ∈ l, i < 1000) (h : kb (l.contains j)) : cmpD .isin (.int (j : Int)) (.tuple (l.map fun (j : Nat) => PyData.int (j : Int))) kb := ⟨shp_int _, (sh_nats hl).shp (by omega), by
  show kb (inD (.int (j : Int)) (l.map fun (j : Nat) => PyData.int (j : Int)))
  rw [inD_nat]; exact h⟩
theorem rcL_lt {n : Nat} {S : Nat → Nat → Rat} {u : Nat} (h5 : n ≤ 5) : ∀ i ∈ rcL n S u, i < 1000 := fun i hi => by
  have := (Mx.mem_rchL.mp hi).lt; omega
theorem wetL_any {n : Nat} {S : Nat → Nat → Rat} {a : Nat → Rat} {j : Nat} : ((List.range n).any fun k => has a k && (rcL n S k).contains j) = true ↔ Mx.Rch n (ed S) (has a) j := by
  rw [rch_one, List.any_eq_true]
  constructor
  · rintro ⟨k, hk, q⟩
    rw [Bool.and_eq_true] at q
    exact ⟨k, List.mem_range.mp hk, q.1, Mx.mem_rchL.mp (by simpa using q.2)⟩
  · rintro ⟨k, hk, u, r⟩
    refine ⟨k, List.mem_range.mpr hk, ?_⟩
    rw [u, Bool.true_and]
    have : j ∈ rcL n S k := Mx.mem_rchL.mpr r
    simpa using this
theorem wetL {n : Nat} {S : Nat → Nat → Rat} {a : Nat → Rat} : ((List.range n).filter fun j => (List.range n).any fun k => has a k && (rcL n S k).contains j) = fedL n S a := by
  refine List.filter_congr fun j _ => ?_
  rw [Bool.eq_iff_iff, wetL_any, @decide_eq_true_iff _ (Classical.propDecidable _)]
/-! a unit bled -/
def cutS (S : Nat → Nat → Rat) (u : Nat) (r : Rat) : Nat → Nat → Rat := fun i j => if i = u then r * S i j else S i j
theorem w_thinner {P : List FDef} [Nd P] [Has P d_thinner] [Has P d_times] [Has P d_ratio] [Has P d_lowest] [Has P d_divisor_of] {k s t n u : Nat} {S : Nat → Nat → Rat} {r : Rat} {Q E} (hS : Sheet s n S) (hu : u < n) (hr : Sz t r) (ht : t ≤ 4000) (h : Q (.dat (sheetD n (cutS S u r))) []) : gam P (k + 5) "thinner" [.dat (sheetD n S), .dat (.int u), .dat (fr r)] Q E := by
  have hb := hS.bits
  have e : sheetD n S = .tuple (tab n fun i => frT n (S i)) := rfl
  refine R.opn Nd.nd (Has.mem (d := d_thinner)) rfl ?_
  simp only [d_thinner, List.map, List.replicate, List.length_cons, List.length_nil, List.cons_append, List.nil_append, Nat.reduceAdd, Nat.reduceSub]
  rw [e]
  (repeat walk_at "w1")
  rw [tab_enum]
  refine ⟨noOwn2 rfl rfl, ?_⟩
  simp only [wpo, wipeR]
  refine comp_2 (α := Nat) (fun i => .int (i : Int)) (fun i => frT n (S i)) (fun i => frT n (cutS S u r i)) rfl rfl (fun _ _ => rfl) trivial (List.range n) [] (fun i hi nx hn => ?_) ?_
  · have hi' := List.mem_range.mp hi
    (repeat walk_at "w1")
    refine R.iteD (fun g => ?_) fun g => ?_
    · have g : i = u := by omega
      simp only [frT]
      (repeat walk_at "w1")
      refine ⟨noOwn1 rfl, ?_⟩
      simp only [wpo, wipeR]
      refine comp_l (α := Nat) (fun j => fr (S i j)) (fun j => fr (cutS S u r i j)) rfl (fun _ => rfl) trivial (List.range n) [] (fun j hj nx hn => ?_) ?_
      · (repeat walk_at "w1")
        refine w_times hr (hS.sz i j hi' (List.mem_range.mp hj)) (by omega) ?_
        have ec : cutS S u r i j = r * S i j := by unfold cutS; rw [if_pos g]
        rw [← ec]
        (repeat walk_at "w1")
        exact hn
      (repeat walk_at "w1")
      exact hn
    · have ec : cutS S u r i = S i := by funext j; unfold cutS; rw [if_neg (by omega)]
      rw [ec] at hn
      (repeat walk_at "w1")
      exact hn
  (repeat walk_at "w1")
  exact h
theorem w_bled {P : List FDef} [Nd P] [Has P d_bled] [Has P d_check_sheet] [Has P d_is_unit] [Has P d_is_share] [Has P d_is_ratio] [Has P d_are_wholes] [Has P d_is_whole] [Has P d_divisor_of] [Has P d_is_below] [Has P d_total] [Has P d_plus] [Has P d_ratio] [Has P d_lowest] [Has P d_check_unit] [Has P d_is_between] [Has P d_thinner] [Has P d_times] [Has P d_minus] {k s t n u : Nat} {S : Nat → Nat → Rat} {p : Rat} {Q E} (hS : Sheet s n S) (hu : u < n) (hp : Sz t p) (ht : t ≤ 3000) (p0 : 0 ≤ p) (p1 : p < 1) (h : Q (.dat (sheetD n (cutS S u (1 - p)))) []) : gam P (k + 8) "bled" [.dat (sheetD n S), .dat (.int u), .dat (fr p)] Q E := by
  refine R.opn Nd.nd (Has.mem (d := d_bled)) rfl ?_
  simp only [d_bled, List.map, List.replicate, List.length_cons, List.length_nil, List.cons_append, List.nil_append, Nat.reduceAdd, Nat.reduceSub]
  (repeat walk_at "w1")
  refine w_check_sheet hS ?_
  (repeat walk_at "w1")
  refine w_check_unit hu ?_
  (repeat walk_at "w1")
  refine w_is_share (Rat.num_nonneg.mpr p0) (le1_num (Rat.le_of_lt p1)) ?_
  dsimp only
  refine R.ifF ?_
  (repeat walk_at "w1")
  refine eq_fr (b := 1) ?_
  rw [decide_eq_false (Rat.ne_of_lt p1)]
  (repeat walk_at "w1")
  refine w_minus (a := 1) sz_one hp (by omega) ?_
  (repeat walk_at "w1")
  refine w_thinner hS hu (sz_sub sz_one hp) (by omega) ?_
  (repeat walk_at "w1")
  exact h
theorem cut_take {n u : Nat} {f : Nat → D} (hu : u < n) : cutD (tab n f) none (some (u : Int)) = (tab n f).take u := by
  unfold cutD
  rw [HT.sIx_none, HT.sIx_nat, tab_len, Nat.min_eq_left (by omega)]
  simp
theorem cut_drop {n u : Nat} {f : Nat → D} (hu : u < n) : cutD (tab n f) (some ((u : Int) + 1)) none = (tab n f).drop (u + 1) := by
  unfold cutD
  rw [show ((u : Int) + 1) = ((u + 1 : Nat) : Int) by omega, HT.sIx_none, HT.sIx_nat, tab_len, Nat.min_eq_left (by omega)]
  apply List.take_of_length_le
  rw [List.length_drop, tab_len]
  exact Nat.le_refl _
theorem wl_cut_row {P : List FDef} [Nd P] [Has P d__law_cut_row] [Has P d__law_less] [Has P d__law_frac] [Has P d__law_thin] [Has P d__law_gcd] [Has P d__law_times] {k s t n u : Nat} {S : Nat → Nat → Rat} {p : Rat} {Q E} (hS : Sheet s n S) (hu : u < n) (hp : Sz t p) (ht : t ≤ 3000) (h : Q (.dat (sheetD n (cutS S u (1 - p)))) []) : gam P (k + 5) "_law_cut_row" [.dat (sheetD n S), .dat (.int u), .dat (fr p)] Q E := by
  have hb := hS.bits
  have h5 := hS.most
  have e : sheetD n S = .tuple (tab n fun i => frT n (S i)) := rfl
  refine R.opn Nd.nd (Has.mem (d := d__law_cut_row)) rfl ?_
  simp only [d__law_cut_row, List.map, List.replicate, List.length_cons, List.length_nil, List.cons_append, List.nil_append, Nat.reduceAdd, Nat.reduceSub]
  (repeat walk_at "w1")
  refine wl_less (a := 1) sz_one hp (by omega) ?_
  rw [e]
  (repeat walk_at "w1")
  refine R.idx_t (tab_at hu) ?_
  simp only [frT]
  (repeat walk_at "w1")
  refine ⟨noOwn1 rfl, ?_⟩
  simp only [wpo, wipeR]
  refine comp_l (α := Nat) (fun j => fr (S u j)) (fun j => fr (cutS S u (1 - p) u j)) rfl (fun _ => rfl) trivial (List.range n) [] (fun j hj nx hn => ?_) ?_
  · (repeat walk_at "w1")
    refine wl_times (hS.sz u j hu (List.mem_range.mp hj)) (sz_sub sz_one hp) (by omega) ?_
    have ec : cutS S u (1 - p) u j = S u j * (1 - p) := by unfold cutS; rw [if_pos rfl, Rat.mul_comm]
    rw [← ec]
    (repeat walk_at "w1")
    exact hn
  (repeat walk_at "w1")
  rw [cut_take hu]
  refine R.add_t (by unfold LenOk; rw [sizeLine_eq]; simp [tab_len]; omega) ?_
  (repeat walk_at "w1")
  rw [cut_drop hu]
  refine R.add_t (by unfold LenOk; rw [sizeLine_eq]; simp [tab_len]; omega) ?_
  have ef : (tab n fun i => PyData.tuple (tab n fun j => fr (S i j))).take u ++ [PyData.tuple ([] ++ (List.range n).map fun j => fr (cutS S u (1 - p) u j))] ++ (tab n fun i => PyData.tuple (tab n fun j => fr (S i j))).drop (u + 1) = tab n fun i => frT n (cutS S u (1 - p) i) := by
    have s := List.set_eq_take_append_cons_drop (l := tab n fun i => PyData.tuple (tab n fun j => fr (S i j))) (i := u) (a := PyData.tuple (tab n fun j => fr (cutS S u (1 - p) u j)))
    rw [if_pos (by rw [tab_len]; exact hu), tab_set] at s
    rw [List.append_assoc]
    refine Eq.trans s.symm ?_
    refine tab_congr fun i hi => ?_
    by_cases g : i = u
    · rw [if_pos g, g]; rfl
    · rw [if_neg g]
      have ec : cutS S u (1 - p) i = S i := by funext j; unfold cutS; rw [if_neg g]
      rw [ec]; rfl
  rw [ef]
  (repeat walk_at "w1")
  exact h
end Lib
namespace Lib
open PySem DL L2
local macro_rules | `(tactic| walk_at "w1") => `(tactic| (first
  | (with_reducible refine R.lit ?_) | (with_reducible refine R.con ?_)
  | ((with_reducible refine' R.var ?g ?h); (case g => exact rfl))
  | ((with_reducible refine' R.varO ?g ?h); (case g => exact rfl))
  | (with_reducible refine R.op2 ?_) | (with_reducible refine R.cmp ?_) | (with_reducible refine R.idx ?_) | (with_reducible refine R.slc ?_) | (with_reducible refine R.oN ?_) | (with_reducible refine R.oS ?_)
  | (with_reducible refine R.tcmp ?_) | (with_reducible refine R.tnot ?_) | (with_reducible refine R.tand ?_) | (with_reducible refine R.tor ?_) | (with_reducible refine R.tcall ?_) | (with_reducible refine R.tbi ?_) | (with_reducible refine R.tisN ?_) | (with_reducible refine R.tnotN ?_) | (with_reducible refine R.tchain ?_) | (with_reducible refine R.tvar ?_) | (with_reducible refine R.tcallK ?_)
  | (with_reducible refine R.isN ?_) | (with_reducible refine R.notN ?_) | (with_reducible refine R.chain ?_) | (with_reducible refine R.neg ?_) | (with_reducible refine R.not ?_) | (with_reducible refine R.and ?_) | (with_reducible refine R.or ?_) | (with_reducible refine R.ife ?_)
  | (with_reducible refine R.tup ?_) | (with_reducible refine R.lst ?_) | (with_reducible refine R.call ?_) | (with_reducible refine R.callK ?_) | (with_reducible refine R.callIo ?_) | (with_reducible refine R.bi ?_) | (with_reducible refine R.comp ?_) | (with_reducible refine R.index ?_) | (with_reducible refine R.repL ?_) | (with_reducible refine R.listR ?_)
  | (with_reducible refine R.an ?_) | (with_reducible refine R.ac ?_) | (with_reducible refine R.en ?_) | (with_reducible refine R.ec ?_) | (with_reducible refine R.ed ?_) | (with_reducible refine R.eo ?_)
  | ((with_reducible refine' R.erd ?g ?h); (case g => exact rfl)) | ((with_reducible refine' R.ero ?g ?h); (case g => exact rfl))
  | ((with_reducible refine' R.w1 ?g ?h); (case g => exact rfl)) | ((with_reducible refine' R.w2 ?g ?g' ?h); (case g => exact rfl); (case g' => exact rfl)) | ((with_reducible refine' R.ws ?g ?h); (case g => exact rfl))
  | (with_reducible refine R.fval rfl ?_) | (with_reducible refine R.f_l ?_) | (with_reducible refine R.f_t ?_) | (with_reducible refine R.ival rfl ?_) | (with_reducible refine R.i_l ?_) | (with_reducible refine R.i_t ?_) | (with_reducible refine R.i_o ?_) | ((with_reducible refine' R.i_r ?g ?h); (case g => exact rfl))
  | (with_reducible refine R.irange ?_) | (with_reducible refine R.frange ?_) | (with_reducible refine R.ienum ?_) | (with_reducible refine R.fenum ?_) | (with_reducible refine R.izip ?_) | (with_reducible refine R.fzip ?_) | (with_reducible refine R.irev ?_) | (with_reducible refine R.frev ?_) | ((with_reducible refine' R.zip_at ?g ?g' ?h); (case g => exact rfl); (case g' => exact rfl)) | (with_reducible refine R.eq_i ?_) | (with_reducible refine R.ne_i ?_) | (with_reducible refine R.sretN ?_)
  | (with_reducible refine R.sn ?_) | (with_reducible refine R.sc ?_) | (with_reducible refine R.sasg ?_) | (with_reducible refine R.spar ?_) | (with_reducible refine R.sexpr ?_) | (with_reducible refine R.sapp ?_) | (with_reducible refine R.sext ?_) | (with_reducible refine R.sret ?_) | (with_reducible refine R.site ?_) | (with_reducible refine R.sfor ?_)
  | ((with_reducible refine R.nd_ ?n ?h); (case n => first | exact R.nio rfl rfl | exact R.nio rfl (DL.NoOw.ok (by assumption)))) | ((with_reducible refine R.no_ ?n ?h); (case n => first | exact R.nio rfl rfl | exact R.nio rfl (DL.NoOw.ok (by assumption)))) | ((with_reducible refine R.nr_ ?n ?h); (case n => first | exact R.nio rfl rfl | exact R.nio rfl (DL.NoOw.ok (by assumption))))
  | ((with_reducible refine' R.an_name ?n ?h); (case n => first | assumption | exact R.nio rfl rfl | exact R.nio rfl (DL.NoOw.ok (by assumption)))) | ((with_reducible refine' R.an_two ?n ?m ?h); (case n => first | assumption | exact R.nio rfl rfl | exact R.nio rfl (DL.NoOw.ok (by assumption))); (case m => first | assumption | exact R.nio rfl rfl | exact R.nio rfl (DL.NoOw.ok (by assumption)))) | ((with_reducible refine' R.an_three ?n ?m ?o ?h); (case n => first | assumption | exact R.nio rfl rfl | exact R.nio rfl (DL.NoOw.ok (by assumption))); (case m => first | assumption | exact R.nio rfl rfl | exact R.nio rfl (DL.NoOw.ok (by assumption))); (case o => first | assumption | exact R.nio rfl rfl | exact R.nio rfl (DL.NoOw.ok (by assumption)))) | (with_reducible refine R.tt rfl ?_) | (with_reducible refine R.tn ?_) | (with_reducible refine R.tc ?_) | (with_reducible refine R.subd ?_) | ((with_reducible refine' R.own_and ?g ?h); (case g => exact rfl)) | ((with_reducible refine' R.put_at ?g ?g' ?h); (case g => exact rfl); (case g' => exact rfl)) | ((with_reducible refine' R.io_ref ?g ?h); (case g => exact rfl)) | (with_reducible refine R.io_own ?_) | (with_reducible refine R.one_1 ?_) | (with_reducible refine R.setn ?_) | (with_reducible refine R.setd ?_) | (with_reducible refine R.seto ?_) | (with_reducible refine R.setr ?_)
  | ((with_reducible refine' R.find ?g ?h); (case g => exact rfl)) | ((with_reducible refine' R.fino ?g ?h); (case g => exact rfl)) | ((with_reducible refine' R.finr ?g ?g' ?h); (case g => exact rfl); (case g' => exact rfl)) | ((with_reducible refine' R.find' ?g ?g' ?h); (case g => exact rfl); (case g' => exact rfl))
  | (with_reducible refine R.ifT ?_) | (with_reducible refine R.ifF ?_)
  | ((with_reducible refine' R.pow_i ?g ?h); (case g => decide)) | ((with_reducible refine' R.mul_i ?g ?h); (case g => exact mulOk 60 60 (by omega) (by omega) (by decide))) | ((with_reducible refine' R.fdiv_i ?g ?h); (case g => exact divOk (by omega) (by omega))) | ((with_reducible refine' R.mod_i ?g ?h); (case g => omega))
  | (with_reducible refine R.add_i ?_) | (with_reducible refine R.sub_i ?_) | (with_reducible refine R.lt_i ?_) | (with_reducible refine R.le_i ?_) | (with_reducible refine R.gt_i ?_) | (with_reducible refine R.ge_i ?_)
  | ((with_reducible refine' R.idx_l ?g ?h); (case g => exact rfl)) | ((with_reducible refine' R.idx_t ?g ?h); (case g => exact rfl)) | (with_reducible refine R.slc_l ?_) | (with_reducible refine R.slc_t ?_)
  | (with_reducible refine R.len_l ?_) | (with_reducible refine R.len_t ?_) | (with_reducible refine R.tuple_l ?_) | (with_reducible refine R.tuple_t ?_) | (with_reducible refine R.list_l ?_) | (with_reducible refine R.list_t ?_) | (with_reducible refine R.abs_i ?_) | (with_reducible refine R.int_i ?_) | (with_reducible refine R.gcd_i ?_)
  | (with_reducible refine R.isint ?_) | (with_reducible refine R.isbool ?_) | (with_reducible refine R.istuple ?_) | (with_reducible refine R.islist ?_)
  | (with_reducible refine R.sum_is ?_) | (with_reducible refine R.all_bs ?_) | ((with_reducible refine R.any_bs ?_))); (try dsimp only [List.map, List.set, Int.reduceToNat, Bool.not_true, Bool.not_false, DL.restR, DL.gt, DL.wipeR]))
/-! sharper sizes: by determinants -/
theorem w_solvedN {P : List FDef} [Nd P] [Has P d_solved] [Has P d_over] [Has P d_ratio] [Has P d_lowest] [Has P d_divisor_of] [Has P d_minus] [Has P d_times] {k m β : Nat} {A : Nat → Nat → Rat} {Q E} (hm : m ≤ 5) (hi : Mx.inj m A) (hβ : β ≤ 2600) (hR : ∀ p B, p ≤ m → Mx.Reach m A p B → ∀ i j, i < m → j ≤ m → Sz β (B i j))
    (h : ∀ x : Nat → Rat, Mx.sol m A 1 x → (∀ i, i < m → Sz β (x i)) → Q (.dat (frT m x)) []) : gam P (k + 5) "solved" [.dat (.list (matL m A))] Q E := by
  refine R.opn Nd.nd (Has.mem (d := d_solved)) rfl ?_
  simp only [d_solved, List.map, List.replicate, List.length_cons, List.length_nil, List.cons_append, List.nil_append, Nat.reduceAdd, Nat.reduceSub]
  (repeat walk_at "w1")
  refine ⟨noOwn1 rfl, ?_⟩
  simp only [wpo, wipeR]
  refine comp_l (α := Nat) (fun i => .list (tab (m + 1) fun j => fr (A i j))) (fun i => .list (tab (m + 1) fun j => fr (A i j))) rfl (fun _ => rfl) trivial (List.range m) [] (fun i hi nx hn => ?_) ?_
  · (repeat walk_at "w1")
    exact hn
  (repeat walk_at "w1")
  rw [List.nil_append, List.length_map, List.length_range]
  refine R.rng1 (by omega) (by unfold LenOk; rw [sizeLine_eq]; omega) ?_
  refine for_rng (σ := (Nat → Nat → Rat) × Option Sl × Option Sl × Option Sl × Option Sl × Option Sl) (fun s => [some (.dat (.list (matL m A))), some (.own false (matL m s.1)), some (.dat (.int m)), s.2.1, s.2.2.1, s.2.2.2.1, s.2.2.2.2.1, none, none, s.2.2.2.2.2, none])
    (fun p s => (NoOw s.2.1 ∧ NoOw s.2.2.1 ∧ NoOw s.2.2.2.1 ∧ NoOw s.2.2.2.2.1 ∧ NoOw s.2.2.2.2.2) ∧ (∀ c x, Mx.sol m s.1 c x ↔ Mx.sol m A c x) ∧ Mx.units m p s.1 ∧ Mx.Reach m A p s.1) ?_ ?_ (A, none, none, none, none, none) ⟨⟨.n, .n, .n, .n, .n⟩, fun _ _ => Iff.rfl, fun i j _ z => by omega, .zero⟩
  · rintro p ⟨B, x3, x4, x5, x6, x9⟩ nx hp ⟨⟨n3, n4, n5, n6, n9⟩, hsol, hun, hbt⟩ hn
    simp only at n3 n4 n5 n6 n9 hsol hun hbt
    have hiB : Mx.inj m B := fun x hx => hi x ((hsol 0 x).mp hx)
    have szB : ∀ i j, i < m → j ≤ m → Sz β (B i j) := hR p B (by omega) hbt
    refine R.an_name (R.nio rfl n3.ok) ?_
    (repeat walk_at "w1")
    refine R.rng2 (by omega) (by unfold LenOk; rw [sizeLine_eq]; omega) ?_
    refine ⟨noOwnX n6 rfl, ?_⟩
    have ew : ((m : Int) - (p : Int)).toNat = m - p := by omega
    rw [ew]
    simp only [wpo, wipeR]
    refine comp_if (α := Nat) (fun i => .int ((p + i : Nat) : Int)) (fun i => .int ((p + i : Nat) : Int)) (fun i => !decide (B (p + i) p = 0)) rfl (fun _ => rfl) (by trivial) (List.range (m - p)) [] (fun i hi nx hn => ?_) (fun i hi _ nx hn => ?_) ?_
    · have hi' := List.mem_range.mp hi
      (repeat walk_at "w1")
      refine R.idx_l (tab_at (i := p + i) (by omega)) ?_
      (repeat walk_at "w1")
      refine R.idx_l (tab_at (i := p) (by omega)) ?_
      (repeat walk_at "w1")
      refine ne_fr (b := 0) ?_
      (repeat walk_at "w1")
      exact hn
    · (repeat walk_at "w1")
      exact hn
    obtain ⟨q1, hq1, hq2, hq3⟩ := Mx.has_pivot hp hun hiB
    cases hf : (List.range (m - p)).filter fun i => !decide (B (p + i) p = 0) with
    | nil =>
      have : q1 - p ∈ (List.range (m - p)).filter fun i => !decide (B (p + i) p = 0) := by
        rw [List.mem_filter, List.mem_range]
        refine ⟨by omega, ?_⟩
        have : p + (q1 - p) = q1 := by omega
        rw [this]; simpa using hq3
      rw [hf] at this; cases this
    | cons q0 qs =>
    have q0m : q0 ∈ (List.range (m - p)).filter fun i => !decide (B (p + i) p = 0) := by rw [hf]; exact List.mem_cons_self
    rw [List.mem_filter, List.mem_range] at q0m
    obtain ⟨q0l, q0n⟩ := q0m
    have q0n : B (p + q0) p ≠ 0 := by simpa using q0n
    (repeat walk_at "w1")
    refine R.idx_l (x := .int ((p + q0 : Nat) : Int)) (atI_nat (j := 0) rfl) ?_
    (repeat walk_at "w1")
    generalize hq : p + q0 = q at *
    have hqm : q < m := by omega
    refine R.idx_l (tab_at hqm) ?_
    (repeat walk_at "w1")
    refine R.idx_l (tab_at hp) ?_
    (repeat walk_at "w1")
    refine R.put_at rfl (tab_ix hp) ?_
    rw [show matL m B = tab m fun i => .list (tab (m + 1) fun j => fr (B i j)) from rfl]
    rw [tab_set]
    (repeat walk_at "w1")
    refine R.put_at rfl (tab_ix hqm) ?_
    rw [tab_set, swp_row (F := fun f => .list (tab (m + 1) fun j => fr (f j)))]
    (repeat walk_at "w1")
    have hp' : p < m := by omega
    have swpp : Mx.swp B p q p = B q := by unfold Mx.swp; rw [if_pos rfl]
    have szS : ∀ i j, i < m → j ≤ m → Sz β (Mx.swp B p q i j) := fun i j hi hj => by
      unfold Mx.swp
      split
      · exact szB _ _ hqm hj
      · split
        · exact szB _ _ hp' hj
        · exact szB _ _ hi hj
    have ebt : Mx.Reach m A (p + 1) (Mx.elm B p q) := .step hbt (by omega) hqm (by omega) q0n
    have szE : ∀ i j, i < m → j ≤ m → Sz β (Mx.elm B p q i j) := hR (p + 1) _ (by omega) ebt
    refine R.idx_l (tab_at hp') ?_
    (repeat walk_at "w1")
    refine ⟨noOwn1 rfl, ?_⟩
    simp only [wpo, wipeR]
    refine comp_l (α := Nat) (fun j => fr (Mx.swp B p q p j)) (fun j => fr (B q j / B q p)) rfl (fun _ => rfl) trivial (List.range (m + 1)) [] (fun j hj nx hn => ?_) ?_
    · have hj' := List.mem_range.mp hj
      (repeat walk_at "w1")
      refine R.idx_l (tab_at hp') ?_
      (repeat walk_at "w1")
      refine R.idx_l (tab_at (i := p) (by omega)) ?_
      (repeat walk_at "w1")
      rw [swpp] at hn ⊢
      refine w_overG (szB q j hqm (by omega)) (szB q p hqm (by omega)) (by omega) q0n ?_
      (repeat walk_at "w1")
      exact hn
    (repeat walk_at "w1")
    refine R.put_at rfl (tab_ix hp') ?_
    have first : ((tab m fun j => PyData.list (tab (m + 1) fun j_1 => fr (Mx.swp B p q j j_1))).set p (.list ([] ++ (List.range (m + 1)).map fun j => fr (B q j / B q p)))) = matL m (mid B p q 0) := by
      rw [tab_set]
      unfold matL
      refine tab_congr fun i hi => ?_
      by_cases g : i = p
      · rw [if_pos g]
        unfold mid Mx.elm
        subst g
        rw [if_pos (.inl rfl)]
        simp only [if_pos rfl]
        rfl
      · rw [if_neg g]
        unfold mid
        rw [if_neg (by omega)]
    rw [first]
    (repeat walk_at "w1")
    refine R.rng1 (by omega) (by unfold LenOk; rw [sizeLine_eq]; omega) ?_
    refine for_rng (n := m) (σ := Nat × Option Sl × Option Sl) (fun s => [some (.dat (.list (matL m A))), some (.own false (matL m (mid B p q s.1))), some (.dat (.int m)), some (.dat (.int p)), some (.dat (.int q)), some (.dat (.list (tab (m + 1) fun j => fr (B q j / B q p)))), s.2.1, none, none, s.2.2, none])
      (fun a s => s.1 = a ∧ NoOw s.2.1 ∧ NoOw s.2.2) ?_ ?_ (0, x6, x9) ⟨rfl, n6, n9⟩
    · rintro a ⟨a', x6, x9⟩ nx' ha ⟨e1, n6, n9⟩ hn'
      simp only at e1 n6 n9
      subst e1
      refine R.an_name (R.nio rfl n6.ok) ?_
      (repeat walk_at "w1")
      refine R.iteN (fun g => ?_) fun g => ?_
      · have g' : a' ≠ p := by omega
        have ms : mid B p q a' a' = Mx.swp B p q a' := by unfold mid; rw [if_neg (by omega)]
        (repeat walk_at "w1")
        refine R.idx_l (tab_at ha) ?_
        (repeat walk_at "w1")
        rw [ms]
        refine R.idx_l (tab_at (i := p) (by omega)) ?_
        (repeat walk_at "w1")
        refine R.idx_l (tab_at ha) ?_
        rw [ms]
        (repeat walk_at "w1")
        rw [tab_zip]
        refine ⟨noOwn2 rfl rfl, ?_⟩
        simp only [wpo, wipeR]
        refine comp_2 (α := Nat) (fun j => fr (Mx.swp B p q a' j)) (fun j => fr (B q j / B q p)) (fun j => fr (Mx.elm B p q a' j)) rfl rfl (fun _ _ => rfl) trivial (List.range (m + 1)) [] (fun j hj nx hn => ?_) ?_
        · have hj' := List.mem_range.mp hj
          have s1 := szS a' p ha (by omega)
          have s2 := szE p j hp' (by omega)
          have ee : Mx.elm B p q p j = B q j / B q p := by unfold Mx.elm; rw [if_pos rfl]
          rw [ee] at s2
          (repeat walk_at "w1")
          refine w_times s1 s2 (by omega) ?_
          (repeat walk_at "w1")
          refine w_minus (szS a' j ha (by omega)) (sz_mul s1 s2) (by omega) ?_
          have e3 : Mx.elm B p q a' j = Mx.swp B p q a' j - Mx.swp B p q a' p * (B q j / B q p) := by unfold Mx.elm; rw [if_neg g']
          (repeat walk_at "w1")
          rw [← e3]
          exact hn
        (repeat walk_at "w1")
        refine R.put_at rfl (tab_ix ha) ?_
        have next : (matL m (mid B p q a')).set a' (.list ([] ++ (List.range (m + 1)).map fun j => fr (Mx.elm B p q a' j))) = matL m (mid B p q (a' + 1)) := by
          unfold matL
          rw [tab_set]
          refine tab_congr fun i hi => ?_
          by_cases g : i = a'
          · rw [if_pos g]
            unfold mid
            subst g
            rw [if_pos (.inr (by omega))]
            rfl
          · rw [if_neg g]
            unfold mid
            by_cases g2 : i = p ∨ i < a'
            · rw [if_pos g2, if_pos (by omega)]
            · rw [if_neg g2, if_neg (by omega)]
        rw [next]
        exact hn' (a' + 1, _, _) ⟨rfl, .d, .d⟩
      · have g' : a' = p := by omega
        have same : mid B p q a' = mid B p q (a' + 1) := by
          funext i
          unfold mid
          by_cases g2 : i = p ∨ i < a'
          · rw [if_pos g2, if_pos (by omega)]
          · rw [if_neg g2, if_neg (by omega)]
        have := hn' (a' + 1, some (.dat (.int a')), x9) ⟨rfl, .d, n9⟩
        rw [← same] at this
        (repeat walk_at "w1")
        exact this
    · rintro ⟨a, x6, x9⟩ ⟨e1, n6, n9⟩
      simp only at e1 n6 n9
      subst e1
      have fin : matL a (mid B p q a) = matL a (Mx.elm B p q) := tab_congr fun i hi => by
        unfold mid
        rw [if_pos (.inr hi)]
      rw [fin]
      refine hn (Mx.elm B p q, _, _, _, _, _) ⟨⟨.d, .d, .d, n6, n9⟩, fun c x => (Mx.elm_sol hp' hqm q0n).trans (hsol c x), Mx.elm_units hp' hqm (by omega) q0n hun, ?_⟩
      exact ebt
  · rintro ⟨B, x3, x4, x5, x6, x9⟩ ⟨⟨n3, n4, n5, n6, n9⟩, hsol, hun, hbt⟩
    simp only at n3 n4 n5 n6 n9 hsol hun hbt
    have em : (m : Int).toNat = m := by omega
    rw [em] at hun hbt
    (repeat walk_at "w1")
    refine ⟨noOwn1 rfl, ?_⟩
    simp only [wpo, wipeR]
    refine comp_l (α := Nat) (fun i => .list (tab (m + 1) fun j => fr (B i j))) (fun i => fr (B i m)) rfl (fun _ => rfl) (by rfl) (List.range m) [] (fun i hi nx hn => ?_) ?_
    · (repeat walk_at "w1")
      refine R.idx_l (tab_at (i := m) (by omega)) ?_
      (repeat walk_at "w1")
      exact hn
    (repeat walk_at "w1")
    exact h (fun i => B i m) ((hsol 1 _).mp (Mx.units_sol hun)) fun i hi => hR m B (Nat.le_refl m) hbt i m hi (Nat.le_refl m)
theorem wl_solvedN {P : List FDef} [Nd P] [Has P d__law_solved] [Has P d__law_over] [Has P d__law_frac] [Has P d__law_thin] [Has P d__law_gcd] [Has P d__law_less] [Has P d__law_times] {k m β : Nat} {A : Nat → Nat → Rat} {Q E} (hm : m ≤ 5) (hi : Mx.inj m A) (hβ : β ≤ 2600) (hR : ∀ p B, p ≤ m → Mx.Reach m A p B → ∀ i j, i < m → j ≤ m → Sz β (B i j))
    (h : ∀ x : Nat → Rat, Mx.sol m A 1 x → (∀ i, i < m → Sz β (x i)) → Q (.own (tab m fun i => fr (x i))) []) : gam P (k + 5) "_law_solved" [.dat (.list (tab m fun i => .list (tab m fun j => fr (A i j)))), .dat (.list (tab m fun i => fr (A i m)))] Q E := by
  refine R.opn Nd.nd (Has.mem (d := d__law_solved)) rfl ?_
  simp only [d__law_solved, List.map, List.replicate, List.length_cons, List.length_nil, List.cons_append, List.nil_append, Nat.reduceAdd, Nat.reduceSub]
  (repeat walk_at "w1")
  rw [tab_len]
  refine R.rng1 (by omega) (by unfold LenOk; rw [sizeLine_eq]; omega) ?_
  refine ⟨noOwn1 rfl, ?_⟩
  simp only [wpo, wipeR]
  refine comp_l (α := Nat) (fun i => .int (i : Int)) (fun i => .list (tab (m + 1) fun j => fr (A i j))) rfl (fun _ => rfl) trivial (List.range m) [] (fun i hi nx hn => ?_) ?_
  · have hi' := List.mem_range.mp hi
    (repeat walk_at "w1")
    refine R.idx_l (tab_at hi') ?_
    (repeat walk_at "w1")
    refine R.idx_l (tab_at hi') ?_
    (repeat walk_at "w1")
    refine R.add_l (by unfold LenOk; rw [sizeLine_eq, tab_len]; simp; omega) ?_
    rw [← tab_snoc (g := fun j => fr (A i j))]
    (repeat walk_at "w1")
    exact hn
  (repeat walk_at "w1")
  rw [List.nil_append, List.length_map, List.length_range]
  refine R.rng1 (by omega) (by unfold LenOk; rw [sizeLine_eq]; omega) ?_
  refine for_rng (σ := (Nat → Nat → Rat) × Option Sl × Option Sl × Option Sl × Option Sl × Option Sl) (fun s => [some (.dat (.list (tab m fun i => .list (tab m fun j => fr (A i j))))), some (.dat (.list (tab m fun i => fr (A i m)))), some (.own false (matL m s.1)), s.2.1, s.2.2.1, s.2.2.2.1, s.2.2.2.2.1, none, s.2.2.2.2.2, none])
    (fun p s => (NoOw s.2.1 ∧ NoOw s.2.2.1 ∧ R.okSl s.2.2.2.1 = true ∧ NoOw s.2.2.2.2.1 ∧ NoOw s.2.2.2.2.2) ∧ (∀ c x, Mx.sol m s.1 c x ↔ Mx.sol m A c x) ∧ Mx.units m p s.1 ∧ Mx.Reach m A p s.1) ?_ ?_ (A, none, none, none, none, none) ⟨⟨.n, .n, rfl, .n, .n⟩, fun _ _ => Iff.rfl, fun i j _ z => by omega, .zero⟩
  · rintro p ⟨B, x3, x4, x5, x6, x9⟩ nx hp ⟨⟨n3, n4, n5, n6, n9⟩, hsol, hun, hbt⟩ hn
    simp only at n3 n4 n5 n6 n9 hsol hun hbt
    have hiB : Mx.inj m B := fun x hx => hi x ((hsol 0 x).mp hx)
    have hp' : p < m := by omega
    have szB : ∀ i j, i < m → j ≤ m → Sz β (B i j) := hR p B (by omega) hbt
    refine R.an_name (R.nio rfl n3.ok) ?_
    (repeat walk_at "w1")
    rw [show (matL m B).length = m from tab_len]
    refine R.rng2 (by omega) (by unfold LenOk; rw [sizeLine_eq]; omega) ?_
    refine ⟨noOwnX n6 rfl, ?_⟩
    have ew : ((m : Int) - (p : Int)).toNat = m - p := by omega
    rw [ew]
    simp only [wpo, wipeR]
    refine comp_if (α := Nat) (fun i => .int ((p + i : Nat) : Int)) (fun i => .int ((p + i : Nat) : Int)) (fun i => !decide (B (p + i) p = 0)) rfl (fun _ => rfl) (by trivial) (List.range (m - p)) [] (fun i hi nx hn => ?_) (fun i hi _ nx hn => ?_) ?_
    · have hi' := List.mem_range.mp hi
      (repeat walk_at "w1")
      refine R.idx_l (tab_at (i := p + i) (by omega)) ?_
      (repeat walk_at "w1")
      refine R.idx_l (tab_at (i := p) (by omega)) ?_
      simp only [fr]
      (repeat walk_at "w1")
      rw [num_ne_iff]
      exact hn
    · (repeat walk_at "w1")
      exact hn
    obtain ⟨q1, hq1, hq2, hq3⟩ := Mx.has_pivot hp' hun hiB
    cases hf : (List.range (m - p)).filter fun i => !decide (B (p + i) p = 0) with
    | nil =>
      have : q1 - p ∈ (List.range (m - p)).filter fun i => !decide (B (p + i) p = 0) := by
        rw [List.mem_filter, List.mem_range]
        refine ⟨by omega, ?_⟩
        have : p + (q1 - p) = q1 := by omega
        rw [this]; simpa using hq3
      rw [hf] at this; cases this
    | cons q0 qs =>
    have q0m : q0 ∈ (List.range (m - p)).filter fun i => !decide (B (p + i) p = 0) := by rw [hf]; exact List.mem_cons_self
    rw [List.mem_filter, List.mem_range] at q0m
    obtain ⟨q0l, q0n⟩ := q0m
    have q0n : B (p + q0) p ≠ 0 := by simpa using q0n
    (repeat walk_at "w1")
    refine R.idx_l (x := .int ((p + q0 : Nat) : Int)) (atI_nat (j := 0) rfl) ?_
    (repeat walk_at "w1")
    generalize hq : p + q0 = q at *
    have hqm : q < m := by omega
    refine R.idx_l (tab_at hqm) ?_
    (repeat walk_at "w1")
    refine R.idx_l (tab_at hp') ?_
    (repeat walk_at "w1")
    refine R.put_at rfl (tab_ix hp') ?_
    rw [show matL m B = tab m fun i => .list (tab (m + 1) fun j => fr (B i j)) from rfl]
    rw [tab_set]
    (repeat walk_at "w1")
    refine R.put_at rfl (tab_ix hqm) ?_
    rw [tab_set, swp_row (F := fun f => .list (tab (m + 1) fun j => fr (f j)))]
    (repeat walk_at "w1")
    have swpp : Mx.swp B p q p = B q := by unfold Mx.swp; rw [if_pos rfl]
    have szS : ∀ i j, i < m → j ≤ m → Sz β (Mx.swp B p q i j) := fun i j hi hj => by
      unfold Mx.swp
      split
      · exact szB _ _ hqm hj
      · split
        · exact szB _ _ hp' hj
        · exact szB _ _ hi hj
    have ebt : Mx.Reach m A (p + 1) (Mx.elm B p q) := .step hbt (by omega) hqm (by omega) q0n
    have szE : ∀ i j, i < m → j ≤ m → Sz β (Mx.elm B p q i j) := hR (p + 1) _ (by omega) ebt
    refine R.idx_l (tab_at hp') ?_
    (repeat walk_at "w1")
    refine ⟨noOwn1 rfl, ?_⟩
    simp only [wpo, wipeR]
    refine comp_l (α := Nat) (fun j => fr (Mx.swp B p q p j)) (fun j => fr (B q j / B q p)) rfl (fun _ => rfl) trivial (List.range (m + 1)) [] (fun j hj nx hn => ?_) ?_
    · have hj' := List.mem_range.mp hj
      (repeat walk_at "w1")
      refine R.idx_l (tab_at hp') ?_
      (repeat walk_at "w1")
      refine R.idx_l (tab_at (i := p) (by omega)) ?_
      (repeat walk_at "w1")
      rw [swpp] at hn ⊢
      refine wl_over (szB q j hqm (by omega)) (szB q p hqm (by omega)) (by omega) q0n ?_
      (repeat walk_at "w1")
      exact hn
    refine R.no_ (R.nio rfl n5) ?_
    (repeat walk_at "w1")
    refine R.put_at rfl (tab_ix hp') ?_
    have first : (tab m fun j => PyData.list (tab (m + 1) fun j_1 => fr (Mx.swp B p q j j_1))).set p (.list ([] ++ (List.range (m + 1)).map fun j => fr (B q j / B q p))) = matL m (mid B p q 0) := by
      rw [tab_set]
      unfold matL
      refine tab_congr fun i hi => ?_
      by_cases g : i = p
      · rw [if_pos g]
        unfold mid Mx.elm
        subst g
        rw [if_pos (.inl rfl)]
        simp only [if_pos rfl]
        rfl
      · rw [if_neg g]
        unfold mid
        rw [if_neg (by omega)]
    rw [first]
    (repeat walk_at "w1")
    rw [show (matL m (mid B p q 0)).length = m from tab_len]
    refine R.rng1 (by omega) (by unfold LenOk; rw [sizeLine_eq]; omega) ?_
    refine for_rng (n := m) (σ := Nat × Option Sl × Option Sl) (fun s => [some (.dat (.list (tab m fun i => .list (tab m fun j => fr (A i j))))), some (.dat (.list (tab m fun i => fr (A i m)))), some (.own false (matL m (mid B p q s.1))), some (.dat (.int p)), some (.dat (.int q)), some (.dat (.list (tab (m + 1) fun j => fr (B q j / B q p)))), s.2.1, none, s.2.2, none])
      (fun a s => s.1 = a ∧ NoOw s.2.1 ∧ NoOw s.2.2) ?_ ?_ (0, x6, x9) ⟨rfl, n6, n9⟩
    · rintro a ⟨a', x6, x9⟩ nx' ha ⟨e1, n6, n9⟩ hn'
      simp only at e1 n6 n9
      subst e1
      have skip : (a' = p ∨ Mx.swp B p q a' p = 0) → nx' [some (.dat (.list (tab m fun i => .list (tab m fun j => fr (A i j))))), some (.dat (.list (tab m fun i => fr (A i m)))), some (.own false (matL m (mid B p q a'))), some (.dat (.int p)), some (.dat (.int q)), some (.dat (.list (tab (m + 1) fun j => fr (B q j / B q p)))), some (.dat (.int a')), none, x9, none] := by
        intro z
        have same : mid B p q a' = mid B p q (a' + 1) := by
          funext i
          unfold mid
          by_cases g2 : i = p ∨ i < a'
          · rw [if_pos g2, if_pos (by omega)]
          · rw [if_neg g2]
            by_cases g3 : i = a'
            · subst g3
              rw [if_pos (by omega)]
              have z2 := z.resolve_left fun y => g2 (.inl y)
              funext j
              unfold Mx.elm
              rw [if_neg (fun y => g2 (.inl y)), z2]; grind
            · rw [if_neg (by omega)]
        have := hn' (a' + 1, some (.dat (.int a')), x9) ⟨rfl, .d, n9⟩
        rw [← same] at this
        exact this
      refine R.an_name (R.nio rfl n6.ok) ?_
      (repeat walk_at "w1")
      refine R.iteN (fun g => ?_) fun g => ?_
      · have g' : a' ≠ p := by omega
        have ms : mid B p q a' a' = Mx.swp B p q a' := by unfold mid; rw [if_neg (by omega)]
        (repeat walk_at "w1")
        refine R.idx_l (tab_at ha) ?_
        rw [ms]
        (repeat walk_at "w1")
        refine R.idx_l (tab_at (i := p) (by omega)) ?_
        simp only [fr]
        (repeat walk_at "w1")
        rw [num_ne_iff]
        refine R.iteN (fun g3 => ?_) fun g3 => ?_
        · (repeat walk_at "w1")
          refine R.idx_l (tab_at ha) ?_
          rw [ms]
          (repeat walk_at "w1")
          refine R.idx_l (tab_at (i := p) (by omega)) ?_
          (repeat walk_at "w1")
          rw [tab_len]
          refine R.rng1 (by omega) (by unfold LenOk; rw [sizeLine_eq]; omega) ?_
          refine ⟨noOwn1 rfl, ?_⟩
          simp only [wpo, wipeR]
          refine comp_l (α := Nat) (fun j => .int (j : Int)) (fun j => fr (Mx.elm B p q a' j)) rfl (fun _ => rfl) trivial (List.range (m + 1)) [] (fun j hj nx hn => ?_) ?_
          · have hj' := List.mem_range.mp hj
            have s1 := szS a' p ha (by omega)
            have s2 := szE p j hp' (by omega)
            have ee : Mx.elm B p q p j = B q j / B q p := by unfold Mx.elm; rw [if_pos rfl]
            rw [ee] at s2
            (repeat walk_at "w1")
            refine R.idx_l (tab_at ha) ?_
            rw [ms]
            (repeat walk_at "w1")
            refine R.idx_l (tab_at hj') ?_
            (repeat walk_at "w1")
            refine R.idx_l (tab_at hj') ?_
            (repeat walk_at "w1")
            refine wl_times s1 s2 (by omega) ?_
            (repeat walk_at "w1")
            refine wl_less (szS a' j ha (by omega)) (sz_mul s1 s2) (by omega) ?_
            have e3 : Mx.elm B p q a' j = Mx.swp B p q a' j - Mx.swp B p q a' p * (B q j / B q p) := by unfold Mx.elm; rw [if_neg g']
            rw [← e3]
            (repeat walk_at "w1")
            exact hn
          (repeat walk_at "w1")
          refine R.put_at rfl (tab_ix ha) ?_
          have next : (matL m (mid B p q a')).set a' (.list ([] ++ (List.range (m + 1)).map fun j => fr (Mx.elm B p q a' j))) = matL m (mid B p q (a' + 1)) := by
            unfold matL
            rw [tab_set]
            refine tab_congr fun i hi => ?_
            by_cases g : i = a'
            · rw [if_pos g]
              unfold mid
              subst g
              rw [if_pos (.inr (by omega))]
              rfl
            · rw [if_neg g]
              unfold mid
              by_cases g2 : i = p ∨ i < a'
              · rw [if_pos g2, if_pos (by omega)]
              · rw [if_neg g2, if_neg (by omega)]
          rw [next]
          exact hn' (a' + 1, _, _) ⟨rfl, .d, .d⟩
        · have := skip (.inr g3)
          (repeat walk_at "w1")
          exact this
      · have := skip (.inl (by omega))
        (repeat walk_at "w1")
        exact this
    · rintro ⟨a, x6, x9⟩ ⟨e1, n6, n9⟩
      simp only at e1 n6 n9
      subst e1
      have fin : matL a (mid B p q a) = matL a (Mx.elm B p q) := tab_congr fun i hi => by
        unfold mid
        rw [if_pos (.inr hi)]
      rw [fin]
      refine hn (Mx.elm B p q, _, _, _, _, _) ⟨⟨.d, .d, rfl, n6, n9⟩, fun c x => (Mx.elm_sol hp' hqm q0n).trans (hsol c x), Mx.elm_units hp' hqm (by omega) q0n hun, ?_⟩
      exact ebt
  · rintro ⟨B, x3, x4, x5, x6, x9⟩ ⟨⟨n3, n4, n5, n6, n9⟩, hsol, hun, hbt⟩
    simp only at n3 n4 n5 n6 n9 hsol hun hbt
    have em : (m : Int).toNat = m := by omega
    rw [em] at hun hbt
    (repeat walk_at "w1")
    refine ⟨noOwn1 rfl, ?_⟩
    simp only [wpo, wipeR]
    refine comp_l (α := Nat) (fun i => .list (tab (m + 1) fun j => fr (B i j))) (fun i => fr (B i m)) rfl (fun _ => rfl) (by rfl) (List.range m) [] (fun i hi nx hn => ?_) ?_
    · (repeat walk_at "w1")
      refine R.idx_l (i := -1) atI_neg1 ?_
      (repeat walk_at "w1")
      exact hn
    (repeat walk_at "w1")
    exact h (fun i => B i m) ((hsol 1 _).mp (Mx.units_sol hun)) fun i hi => hR m B (Nat.le_refl m) hbt i m hi (Nat.le_refl m)
/-- the sizes while the system of the fed ones is solved -/
def SolvB (β n : Nat) (S : Nat → Nat → Rat) (a : Nat → Rat) : Prop := ∀ p B, p ≤ (fedL n S a).length → Mx.Reach (fedL n S a).length (Mx.fedA (fedL n S a).length (fd n S a) S a) p B → ∀ i j, i < (fedL n S a).length → j ≤ (fedL n S a).length → Sz β (B i j)
theorem solvB {s n c t : Nat} {S : Nat → Nat → Rat} {a : Nat → Rat} (hS : Sheet s n S) (hD : Den c n S) (ha : Am t n a) : SolvB (5 * (c + 1 + t) + c + 11) n S a := by
  have h5 := hS.most
  have lm := fed_len (n := n) (S := S) (a := a)
  obtain ⟨w, hw, hbt⟩ := fed_bits (m := (fedL n S a).length) (F := fd n S a) hD ha fun k hk => fd_lt hk
  intro p B _ hB i j hi hj
  obtain ⟨x, d, d0, xb, db, e⟩ := Mx.reach_bits (by omega) hw hbt hB hi hj
  have m : (fedL n S a).length * (c + 1 + t) ≤ 5 * (c + 1 + t) := Nat.mul_le_mul_right _ (by omega)
  exact sz_frac d0 (Nat.lt_of_lt_of_le xb (Nat.pow_le_pow_right (by omega) (by omega))) (Nat.lt_of_lt_of_le db (Nat.pow_le_pow_right (by omega) (by omega))) e
theorem w_flow_byN {P : List FDef} [Nd P] [Has P d_flow_by] [Has P d_reached_from] [Has P d_loses] [Has P d_losses_by] [Has P d_minus] [Has P d_ratio] [Has P d_lowest] [Has P d_divisor_of] [Has P d_total] [Has P d_plus] [Has P d_kept_part] [Has P d_solved] [Has P d_over] [Has P d_times] {k s n β : Nat} {S : Nat → Nat → Rat} {a : Nat → Rat} {Q E} (hS : Sheet s n S) (hV : SolvB β n S a) (hβ : β ≤ 2600) (hβ1 : 1 ≤ β)
    (h0 : fine n S a = false → Q (.dat .none) [])
    (h1 : ∀ X : Nat → Rat, fine n S a = true → FlowX n S a X → (∀ i, i < n → Sz β (X i)) → Q (.dat (frT n X)) []) : gam P (k + 8) "flow_by" [.dat (sheetD n S), .dat (frT n a)] Q E := by
  have o1 := hS.one
  have h5 := hS.most
  have e : sheetD n S = .tuple (tab n fun i => frT n (S i)) := rfl
  have lm := fed_len (n := n) (S := S) (a := a)
  have et : ∀ f : Nat → D, (fedL n S a).map f = tab (fedL n S a).length fun k => f (fd n S a k) := fed_tab
  refine R.opn Nd.nd (Has.mem (d := d_flow_by)) rfl ?_
  simp only [d_flow_by, List.map, List.replicate, List.length_cons, List.length_nil, List.cons_append, List.nil_append, Nat.reduceAdd, Nat.reduceSub]
  simp only [frT]
  (repeat walk_at "w1")
  rw [tab_enum]
  refine ⟨noOwn2 rfl rfl, ?_⟩
  simp only [wpo, wipeR]
  refine comp_2if (α := Nat) (fun i => .int (i : Int)) (fun i => fr (a i)) (fun i => .int (i : Int)) (has a) rfl rfl (fun _ _ => rfl) trivial (List.range n) [] (fun i hi nx hn => ?_) (fun i hi _ nx hn => ?_) ?_
  · (repeat walk_at "w1")
    refine ne_fr (b := 0) ?_
    (repeat walk_at "w1")
    exact hn
  · (repeat walk_at "w1")
    exact hn
  (repeat walk_at "w1")
  refine w_reached_from (l := (List.range n).filter (has a)) hS (fun i hi => List.mem_range.mp (List.mem_filter.mp hi).1) ?_
  have ef : (Mx.rchL n (ed S) fun i => ((List.range n).filter (has a)).contains i) = fedL n S a := rchL_congr fun i hi => by
    rw [Bool.eq_iff_iff]
    simp [hi]
  rw [ef]
  (repeat walk_at "w1")
  refine ⟨noOwn1 rfl, ?_⟩
  simp only [wpo, wipeR]
  refine comp_l (α := Nat) (fun i => .int (i : Int)) (fun i => .bool (lossy n S i)) rfl (fun _ => rfl) (by rfl) (fedL n S a) [] (fun i hi nx hn => ?_) ?_
  · (repeat walk_at "w1")
    refine w_loses hS (fed_mem.mp hi).lt ?_
    (repeat walk_at "w1")
    exact hn
  (repeat walk_at "w1")
  refine all_l ?_
  (repeat walk_at "w1")
  refine R.iteB (fun g => ?_) fun g => ?_
  · (repeat walk_at "w1")
    exact h0 (by simpa [fine] using g)
  have g : fine n S a = true := by simpa [fine] using g
  (repeat walk_at "w1")
  refine ⟨noOwn1 rfl, ?_⟩
  simp only [wpo, wipeR]
  refine comp_l (α := Nat) (fun i => .int (i : Int)) (fun two => .list (((fedL n S a).map fun one => fr ((if one = two then 1 else 0) - S one two)) ++ [fr (a two)])) rfl (fun _ => rfl) (by rfl) (fedL n S a) [] (fun two h2 nx hn => ?_) ?_
  · have h2' := (fed_mem.mp h2).lt
    (repeat walk_at "w1")
    refine ⟨noOwn1 rfl, ?_⟩
    simp only [wpo, wipeR]
    refine comp_l (α := Nat) (fun i => .int (i : Int)) (fun one => fr ((if one = two then 1 else 0) - S one two)) rfl (fun _ => rfl) (by rfl) (fedL n S a) [] (fun one h3 nx hn => ?_) ?_
    · (repeat walk_at "w1")
      refine w_kept_part hS (fed_mem.mp h3).lt h2' ?_
      (repeat walk_at "w1")
      exact hn
    (repeat walk_at "w1")
    refine R.idx_t (tab_at h2') ?_
    (repeat walk_at "w1")
    refine R.add_l (by unfold LenOk; rw [sizeLine_eq]; simp; omega) ?_
    (repeat walk_at "w1")
    exact hn
  (repeat walk_at "w1")
  refine R.len_t (xs := tab n fun i => frT n (S i)) ?_
  rw [tab_len]
  refine ⟨⟨by omega, by omega, by unfold LenOk; rw [sizeLine_eq]; simp; omega⟩, ?_⟩
  rw [show (n : Int).toNat = n by omega, rep_tab]
  (repeat walk_at "w1")
  have er : ([] ++ (fedL n S a).map fun two => PyData.list (((fedL n S a).map fun one => fr ((if one = two then 1 else 0) - S one two)) ++ [fr (a two)])) = matL (fedL n S a).length (Mx.fedA (fedL n S a).length (fd n S a) S a) := by
    rw [List.nil_append, et]
    unfold matL
    refine tab_congr fun k hk => ?_
    rw [et, tab_snoc]
    congr 2
    · refine tab_congr fun l hl => ?_
      unfold Mx.fedA
      rw [if_pos hl]
    · unfold Mx.fedA
      rw [if_neg (by omega)]
  rw [er]
  have inj := Mx.fed_inj (a := a) (F := fd n S a) hS.sub (fine_out hS g) (fun k hk => fd_lt hk) (fun k l hk hl e => fd_inj hk hl e) (fun i _ r => fd_surj r) (fun k hk => fed_mem.mp (fd_mem hk)) (fun i j _ hj r q => fed_closed hj r q)
  refine w_solvedN (by omega) inj hβ hV fun x hx sx => ?_
  have fl := Mx.fed_sol (c := 1) (F := fd n S a) (P := fun i => Mx.Rch n (ed S) (has a) i) (fun k hk => fd_lt hk) (fun k l hk hl e => fd_inj hk hl e) (fun i _ r => fd_surj r) (fun k hk => fed_mem.mp (fd_mem hk)) (fun i j _ hj r q => fed_closed hj r q) (fun i hi q => by rw [fed_zero hi q]; grind) hx
  have fl := fl.congr (b := a) fun i _ => by grind
  have h1 := h1 _ g fl fun i hi => by
    by_cases q : ∃ k, k < (fedL n S a).length ∧ fd n S a k = i
    · obtain ⟨k, hk, rfl⟩ := q
      rw [Mx.ext_at (fun k l hk hl e => fd_inj hk hl e) hk]
      exact (sx k hk).mono (by omega)
    · rw [Mx.ext_off fun k hk e => q ⟨k, hk, e⟩]
      exact sz_zero.mono (by omega)
  rw [et]
  simp only [frT]
  (repeat walk_at "w1")
  rw [tab_zip]
  refine for_rngE (n := (fedL n S a).length) (σ := Nat × Option Sl × Option Sl × D) (fun k => .tuple [.int (fd n S a k : Nat), fr (x k)]) (fun s => [some (.dat (sheetD n S)), some (.dat (.tuple (tab n fun j => fr (a j)))), some (.dat (.list (tab (fedL n S a).length fun k => .int (fd n S a k : Nat)))), some (.dat (.list (matL (fedL n S a).length (Mx.fedA (fedL n S a).length (fd n S a) S a)))), some (.own false (tab n fun i => fr (Mx.ext s.1 (fd n S a) x i))), s.2.1, s.2.2.1, none, none, none])
    (fun k s => s.1 = k ∧ NoOw s.2.1 ∧ NoOw s.2.2.1) ?_ ?_ (0, none, none, .none) ⟨rfl, .n, .n⟩
  · rintro k ⟨k', x5, x6, _⟩ nx hk ⟨e1, n5, n6⟩ hn
    simp only at e1 n5 n6
    subst e1
    refine R.an_two (R.nio rfl n5.ok) (R.nio rfl n6.ok) ?_
    (repeat walk_at "w1")
    refine R.put_at rfl (tab_ix (fd_lt hk)) ?_
    rw [tab_set]
    have := hn (k' + 1, some (.dat (.int (fd n S a k' : Nat))), some (.dat (fr (x k'))), .none) ⟨rfl, .d, .d⟩
    have e3 : (tab n fun j => if j = fd n S a k' then fr (x k') else fr (Mx.ext k' (fd n S a) x j)) = tab n fun i => fr (Mx.ext (k' + 1) (fd n S a) x i) := tab_congr fun i hi => by
      rw [← ext_step hk (fun k l hk hl e => fd_inj hk hl e) i]
      split <;> rfl
    rw [e3]
    (repeat walk_at "w1")
    exact this
  · rintro ⟨k', x5, x6, _⟩ ⟨e1, n5, n6⟩
    simp only at e1 n5 n6
    subst e1
    (repeat walk_at "w1")
    exact h1
theorem w_least_flowN {P : List FDef} [Nd P] [Has P d_least_flow] [Has P d_check_sheet] [Has P d_is_unit] [Has P d_is_share] [Has P d_is_ratio] [Has P d_are_wholes] [Has P d_is_whole] [Has P d_divisor_of] [Has P d_is_below] [Has P d_total] [Has P d_plus] [Has P d_ratio] [Has P d_lowest] [Has P d_check_amounts] [Has P d_flow_by] [Has P d_reached_from] [Has P d_loses] [Has P d_losses_by] [Has P d_minus] [Has P d_kept_part] [Has P d_solved] [Has P d_over] [Has P d_times] {k s n β : Nat} {S : Nat → Nat → Rat} {a : Nat → Rat} {Q E} (hS : Sheet s n S) (ha0 : ∀ i, i < n → 0 ≤ a i) (hV : SolvB β n S a) (hβ : β ≤ 2600) (hβ1 : 1 ≤ β)
    (h0 : fine n S a = false → Q (.dat .none) [])
    (h1 : ∀ X : Nat → Rat, fine n S a = true → FlowX n S a X → (∀ i, i < n → Sz β (X i)) → Q (.dat (frT n X)) []) : gam P (k + 9) "least_flow" [.dat (sheetD n S), .dat (frT n a)] Q E := by
  have e : sheetD n S = .tuple (tab n fun i => frT n (S i)) := rfl
  refine R.opn Nd.nd (Has.mem (d := d_least_flow)) rfl ?_
  simp only [d_least_flow, List.map, List.replicate, List.length_cons, List.length_nil, List.cons_append, List.nil_append, Nat.reduceAdd, Nat.reduceSub]
  (repeat walk_at "w1")
  refine w_check_sheet hS ?_
  rw [e]
  (repeat walk_at "w1")
  rw [tab_len, ← e]
  refine w_check_amounts ha0 ?_
  (repeat walk_at "w1")
  refine w_flow_byN hS hV hβ hβ1 (fun g => ?_) fun X g f sx => ?_
  · (repeat walk_at "w1")
    exact h0 g
  · (repeat walk_at "w1")
    exact h1 X g f sx
theorem reach_end {m : Nat} {A : Nat → Nat → Rat} (hi : Mx.inj m A) : ∃ B, Mx.Reach m A m B ∧ Mx.sol m A 1 fun i => B i m := by
  have key : ∀ p, p ≤ m → ∃ B, (∀ c x, Mx.sol m B c x ↔ Mx.sol m A c x) ∧ Mx.units m p B ∧ Mx.Reach m A p B := by
    intro p
    induction p with
    | zero => intro _; exact ⟨A, fun _ _ => Iff.rfl, fun i j _ z => by omega, .zero⟩
    | succ p ih =>
      intro hp
      obtain ⟨B, hsol, hun, hr⟩ := ih (by omega)
      have hiB : Mx.inj m B := fun x hx => hi x ((hsol 0 x).mp hx)
      obtain ⟨q, hpq, hqm, q0⟩ := Mx.has_pivot (by omega) hun hiB
      exact ⟨Mx.elm B p q, fun c x => (Mx.elm_sol (by omega) hqm q0).trans (hsol c x), Mx.elm_units (by omega) hqm hpq q0 hun, .step hr (by omega) hqm hpq q0⟩
  obtain ⟨B, hsol, hun, hr⟩ := key m (Nat.le_refl m)
  exact ⟨B, hr, (hsol 1 _).mp (Mx.units_sol hun)⟩
theorem flow_existsN {s n β : Nat} {S : Nat → Nat → Rat} {a : Nat → Rat} (hS : Sheet s n S) (hV : SolvB β n S a) (hβ1 : 1 ≤ β) (g : fine n S a = true) : ∃ X, FlowX n S a X ∧ ∀ i, i < n → Sz β (X i) := by
  have inj := Mx.fed_inj (a := a) (F := fd n S a) hS.sub (fine_out hS g) (fun k hk => fd_lt hk) (fun k l hk hl e => fd_inj hk hl e) (fun i _ r => fd_surj r) (fun k hk => fed_mem.mp (fd_mem hk)) (fun i j _ hj r q => fed_closed hj r q)
  obtain ⟨B, hr, hx⟩ := reach_end inj
  have fl := Mx.fed_sol (c := 1) (F := fd n S a) (P := fun i => Mx.Rch n (ed S) (has a) i) (fun k hk => fd_lt hk) (fun k l hk hl e => fd_inj hk hl e) (fun i _ r => fd_surj r) (fun k hk => fed_mem.mp (fd_mem hk)) (fun i j _ hj r q => fed_closed hj r q) (fun i hi q => by rw [fed_zero hi q]; grind) hx
  refine ⟨_, fl.congr (b := a) fun i _ => by grind, fun i hi => ?_⟩
  by_cases q : ∃ k, k < (fedL n S a).length ∧ fd n S a k = i
  · obtain ⟨k, hk, rfl⟩ := q
    rw [Mx.ext_at (fun k l hk hl e => fd_inj hk hl e) hk]
    exact hV _ B (Nat.le_refl _) hr k _ hk (Nat.le_refl _)
  · rw [Mx.ext_off fun k hk e => q ⟨k, hk, e⟩]
    exact sz_zero.mono (by omega)
theorem flow_okN {s n β : Nat} {S : Nat → Nat → Rat} {a : Nat → Rat} (hS : Sheet s n S) (hV : SolvB β n S a) (hβ1 : 1 ≤ β) (g : fine n S a = true) : FlowX n S a (flowOf n S a) ∧ ∀ i, i < n → Sz β (flowOf n S a i) := by
  obtain ⟨X, f, sx⟩ := flow_existsN hS hV hβ1 g
  have e := flow_same hS g f
  refine ⟨⟨fun j hj => ?_, fun j hj q => by rw [← e j hj]; exact f.off j hj q⟩, fun i hi => by rw [← e i hi]; exact sx i hi⟩
  rw [← e j hj, f.eq j hj]
  congr 1
  exact Mx.sm_congr fun i hi => by rw [e i hi]
theorem w_flow_byDN {P : List FDef} [Nd P] [Has P d_flow_by] [Has P d_reached_from] [Has P d_loses] [Has P d_losses_by] [Has P d_minus] [Has P d_ratio] [Has P d_lowest] [Has P d_divisor_of] [Has P d_total] [Has P d_plus] [Has P d_kept_part] [Has P d_solved] [Has P d_over] [Has P d_times] {k s n β : Nat} {S : Nat → Nat → Rat} {a : Nat → Rat} {Q E} (hS : Sheet s n S) (hV : SolvB β n S a) (hβ : β ≤ 2600) (hβ1 : 1 ≤ β) (h : Q (.dat (flowD n S a)) []) : gam P (k + 8) "flow_by" [.dat (sheetD n S), .dat (frT n a)] Q E := by
  refine w_flow_byN hS hV hβ hβ1 (fun g => ?_) fun X g f _ => ?_
  · unfold flowD at h; rw [g] at h; exact h
  · unfold flowD at h; rw [if_pos g] at h; rw [frT_congr (flow_same hS g f)]; exact h
theorem w_least_flowDN {P : List FDef} [Nd P] [Has P d_least_flow] [Has P d_check_sheet] [Has P d_is_unit] [Has P d_is_share] [Has P d_is_ratio] [Has P d_are_wholes] [Has P d_is_whole] [Has P d_divisor_of] [Has P d_is_below] [Has P d_total] [Has P d_plus] [Has P d_ratio] [Has P d_lowest] [Has P d_check_amounts] [Has P d_flow_by] [Has P d_reached_from] [Has P d_loses] [Has P d_losses_by] [Has P d_minus] [Has P d_kept_part] [Has P d_solved] [Has P d_over] [Has P d_times] {k s n β : Nat} {S : Nat → Nat → Rat} {a : Nat → Rat} {Q E} (hS : Sheet s n S) (ha0 : ∀ i, i < n → 0 ≤ a i) (hV : SolvB β n S a) (hβ : β ≤ 2600) (hβ1 : 1 ≤ β) (h : Q (.dat (flowD n S a)) []) : gam P (k + 9) "least_flow" [.dat (sheetD n S), .dat (frT n a)] Q E := by
  refine w_least_flowN hS ha0 hV hβ hβ1 (fun g => ?_) fun X g f _ => ?_
  · unfold flowD at h; rw [g] at h; exact h
  · unfold flowD at h; rw [if_pos g] at h; rw [frT_congr (flow_same hS g f)]; exact h
theorem wl_restN {P : List FDef} [Nd P] [Has P d__law_rest] [Has P d__law_to] [Has P d__law_ways_out] [Has P d__law_losses] [Has P d__law_less] [Has P d__law_frac] [Has P d__law_thin] [Has P d__law_gcd] [Has P d__law_total] [Has P d__law_add] [Has P d__law_solved] [Has P d__law_over] [Has P d__law_times] {k s n β : Nat} {S : Nat → Nat → Rat} {a : Nat → Rat} {Q E} (hS : Sheet s n S) (ha0 : ∀ i, i < n → 0 ≤ a i) (hV : SolvB β n S a) (hβ : β ≤ 2600) (hβ1 : 1 ≤ β) (h : Q (.dat (flowD n S a)) []) : gam P (k + 8) "_law_rest" [.dat (sheetD n S), .dat (frT n a)] Q E := by
  have o1 := hS.one
  have h5 := hS.most
  have hs := hS.bits
  have e : sheetD n S = .tuple (tab n fun i => frT n (S i)) := rfl
  have lm := fed_len (n := n) (S := S) (a := a)
  have et : ∀ f : Nat → D, (fedL n S a).map f = tab (fedL n S a).length fun k => f (fd n S a k) := fed_tab
  refine R.opn Nd.nd (Has.mem (d := d__law_rest)) rfl ?_
  simp only [d__law_rest, List.map, List.replicate, List.length_cons, List.length_nil, List.cons_append, List.nil_append, Nat.reduceAdd, Nat.reduceSub]
  (repeat walk_at "w1")
  refine R.len_t (xs := tab n fun i => frT n (S i)) ?_
  (repeat walk_at "w1")
  rw [tab_len]
  refine R.rng1 (by omega) (by unfold LenOk; rw [sizeLine_eq]; omega) ?_
  refine ⟨noOwn1 rfl, ?_⟩
  simp only [wpo, wipeR]
  refine comp_if (α := Nat) (fun i => .int (i : Int)) (fun i => .int (i : Int)) (fun j => (List.range n).any fun k => has a k && (rcL n S k).contains j) rfl (fun _ => rfl) trivial (List.range n) [] (fun j hj nx hn => ?_) (fun j hj _ nx hn => ?_) ?_
  · (repeat walk_at "w1")
    refine R.len_t (xs := tab n fun i => frT n (S i)) ?_
    (repeat walk_at "w1")
    rw [tab_len]
    refine R.rng1 (by omega) (by unfold LenOk; rw [sizeLine_eq]; omega) ?_
    refine ⟨noOwn1 rfl, ?_⟩
    simp only [wpo, wipeR]
    refine comp_l (α := Nat) (fun i => .int (i : Int)) (fun i => .bool (has a i && (rcL n S i).contains j)) rfl (fun _ => rfl) trivial (List.range n) [] (fun i hi nx hn => ?_) ?_
    · have hi' := List.mem_range.mp hi
      (repeat walk_at "w1")
      refine R.idx_t (xs := tab n fun j => fr (a j)) (tab_at hi') ?_
      simp only [fr]
      (repeat walk_at "w1")
      rw [show decide (0 < (a i).num) = has a i from num_pos_iff (ha0 i hi')]
      refine R.iteB (fun g2 => ?_) fun g2 => ?_
      · (repeat walk_at "w1")
        refine wl_to hS hi' ?_
        (repeat walk_at "w1")
        refine isin_tup (rcL_lt h5) ?_
        (repeat walk_at "w1")
        rw [g2, Bool.true_and] at hn
        exact hn
      · (repeat walk_at "w1")
        rw [g2, Bool.false_and] at hn
        exact hn
    (repeat walk_at "w1")
    refine any_l ?_
    (repeat walk_at "w1")
    exact hn
  · (repeat walk_at "w1")
    exact hn
  rw [List.nil_append, wetL]
  (repeat walk_at "w1")
  refine ⟨noOwn1 rfl, ?_⟩
  simp only [wpo, wipeR]
  refine comp_l (α := Nat) (fun i => .int (i : Int)) (fun i => .bool (lossy n S i)) rfl (fun _ => rfl) (by rfl) (fedL n S a) [] (fun j hj nx hn => ?_) ?_
  · (repeat walk_at "w1")
    refine wl_ways_out hS (fed_mem.mp hj).lt ?_
    (repeat walk_at "w1")
    exact hn
  (repeat walk_at "w1")
  refine all_l ?_
  (repeat walk_at "w1")
  rw [show ((fedL n S a).all fun i => lossy n S i) = fine n S a from rfl]
  unfold flowD at h
  cases g : fine n S a with
  | false =>
    rw [if_neg (by rw [g]; simp)] at h
    refine R.ifT ?_
    (repeat walk_at "w1")
    exact h
  | true =>
  rw [if_pos g] at h
  refine R.ifF ?_
  rw [e]
  (repeat walk_at "w1")
  refine ⟨noOwn1 rfl, ?_⟩
  simp only [wpo, wipeR]
  refine comp_l (α := Nat) (fun i => frT n (S i)) (fun _ => fr 0) rfl (fun _ => rfl) trivial (List.range n) [] (fun i hi nx hn => ?_) ?_
  · (repeat walk_at "w1")
    exact hn
  (repeat walk_at "w1")
  refine ⟨noOwn1 rfl, ?_⟩
  simp only [wpo, wipeR]
  refine comp_l (α := Nat) (fun i => .int (i : Int)) (fun one => .list ((fedL n S a).map fun two => fr ((if two = one then 1 else 0) - S two one))) rfl (fun _ => rfl) (by rfl) (fedL n S a) [] (fun one h2 nx hn => ?_) ?_
  · have h2' := (fed_mem.mp h2).lt
    (repeat walk_at "w1")
    refine ⟨noOwn1 rfl, ?_⟩
    simp only [wpo, wipeR]
    refine comp_l (α := Nat) (fun i => .int (i : Int)) (fun two => fr ((if two = one then 1 else 0) - S two one)) rfl (fun _ => rfl) (by rfl) (fedL n S a) [] (fun two h3 nx hn => ?_) ?_
    · have h3' := (fed_mem.mp h3).lt
      (repeat walk_at "w1")
      refine R.iteD (fun g2 => ?_) fun g2 => ?_
      · rw [if_pos (by omega)] at hn
        (repeat walk_at "w1")
        refine R.idx_t (tab_at h3') ?_
        simp only [frT]
        (repeat walk_at "w1")
        refine R.idx_t (tab_at h2') ?_
        (repeat walk_at "w1")
        refine wl_less (a := 1) sz_one (hS.sz _ _ h3' h2') (by omega) ?_
        (repeat walk_at "w1")
        exact hn
      · rw [if_neg (by omega)] at hn
        (repeat walk_at "w1")
        refine R.idx_t (tab_at h3') ?_
        simp only [frT]
        (repeat walk_at "w1")
        refine R.idx_t (tab_at h2') ?_
        (repeat walk_at "w1")
        refine wl_less (a := 0) sz_zero (hS.sz _ _ h3' h2') (by omega) ?_
        (repeat walk_at "w1")
        exact hn
    (repeat walk_at "w1")
    exact hn
  (repeat walk_at "w1")
  refine ⟨noOwn1 rfl, ?_⟩
  simp only [wpo, wipeR]
  refine comp_l (α := Nat) (fun i => .int (i : Int)) (fun i => fr (a i)) rfl (fun _ => rfl) (by rfl) (fedL n S a) [] (fun i hi nx hn => ?_) ?_
  · (repeat walk_at "w1")
    simp only [frT]
    refine R.idx_t (tab_at (fed_mem.mp hi).lt) ?_
    (repeat walk_at "w1")
    exact hn
  (repeat walk_at "w1")
  have e1 : ([] ++ (fedL n S a).map fun one => PyData.list ((fedL n S a).map fun two => fr ((if two = one then 1 else 0) - S two one))) = tab (fedL n S a).length fun i => .list (tab (fedL n S a).length fun j => fr (Mx.fedA (fedL n S a).length (fd n S a) S a i j)) := by
    rw [List.nil_append, et]
    refine tab_congr fun k hk => ?_
    rw [et]
    congr 1
    refine tab_congr fun l hl => ?_
    unfold Mx.fedA
    rw [if_pos hl]
  have e2 : ([] ++ (fedL n S a).map fun i => fr (a i)) = tab (fedL n S a).length fun i => fr (Mx.fedA (fedL n S a).length (fd n S a) S a i (fedL n S a).length) := by
    rw [List.nil_append, et]
    refine tab_congr fun k hk => ?_
    unfold Mx.fedA
    rw [if_neg (by omega)]
  rw [e1, e2]
  have inj := Mx.fed_inj (a := a) (F := fd n S a) hS.sub (fine_out hS g) (fun k hk => fd_lt hk) (fun k l hk hl e => fd_inj hk hl e) (fun i _ r => fd_surj r) (fun k hk => fed_mem.mp (fd_mem hk)) (fun i j _ hj r q => fed_closed hj r q)
  refine wl_solvedN (by omega) inj hβ hV fun x hx sx => ?_
  have fl := Mx.fed_sol (c := 1) (F := fd n S a) (P := fun i => Mx.Rch n (ed S) (has a) i) (fun k hk => fd_lt hk) (fun k l hk hl e => fd_inj hk hl e) (fun i _ r => fd_surj r) (fun k hk => fed_mem.mp (fd_mem hk)) (fun i j _ hj r q => fed_closed hj r q) (fun i hi q => by rw [fed_zero hi q]; grind) hx
  have fl := fl.congr (b := a) fun i _ => by grind
  rw [← frT_congr (flow_same hS g fl)] at h
  (repeat walk_at "w1")
  rw [List.length_map]
  refine R.rng1 (by omega) (by unfold LenOk; rw [sizeLine_eq]; omega) ?_
  rw [et]
  refine for_rng (n := (fedL n S a).length) (σ := Nat × Option Sl) (fun s => [some (.dat (sheetD n S)), some (.dat (frT n a)), some (.own false (tab (fedL n S a).length fun k => .int (fd n S a k : Nat))), some (.own false (tab n fun i => fr (Mx.ext s.1 (fd n S a) x i))), some (.dat (.list (tab (fedL n S a).length fun i => .list (tab (fedL n S a).length fun j => fr (Mx.fedA (fedL n S a).length (fd n S a) S a i j))))), some (.own false (tab (fedL n S a).length fun i => fr (x i))), s.2, none, none, none, none])
    (fun k s => s.1 = k ∧ NoOw s.2) ?_ ?_ (0, none) ⟨rfl, .n⟩
  · rintro k ⟨k', x6⟩ nx hk ⟨e1, n6⟩ hn
    simp only at e1 n6
    subst e1
    refine R.an_name (R.nio rfl n6.ok) ?_
    (repeat walk_at "w1")
    refine R.idx_l (tab_at hk) ?_
    (repeat walk_at "w1")
    refine R.idx_l (tab_at hk) ?_
    (repeat walk_at "w1")
    refine R.put_at rfl (tab_ix (fd_lt hk)) ?_
    rw [tab_set]
    have e3 : (tab n fun j => if j = fd n S a k' then fr (x k') else fr (Mx.ext k' (fd n S a) x j)) = tab n fun i => fr (Mx.ext (k' + 1) (fd n S a) x i) := tab_congr fun i hi => by
      rw [← ext_step hk (fun k l hk hl e => fd_inj hk hl e) i]
      split <;> rfl
    rw [e3]
    exact hn (k' + 1, some (.dat (.int k'))) ⟨rfl, .d⟩
  · rintro ⟨k', x6⟩ ⟨e1, n6⟩
    simp only at e1 n6
    subst e1
    (repeat walk_at "w1")
    exact h
end Lib
namespace K88
open PySem DL
abbrev top (i : Nat) : Stmt := PySem.Challenge.pw_partedcolumns_k88_whole_bleeds.main.body.getD i (.Pass ⟨0, 0, 0, 0⟩)
abbrev d_is_whole : FDef := Lib.d_is_whole
abbrev d_is_between : FDef := Lib.d_is_between
abbrev d_are_wholes : FDef := Lib.d_are_wholes
abbrev d_divisor_of : FDef := Lib.d_divisor_of
abbrev d_lowest : FDef := Lib.d_lowest
abbrev d_is_ratio : FDef := Lib.d_is_ratio
abbrev d_ratio : FDef := Lib.d_ratio
abbrev d_plus : FDef := Lib.d_plus
abbrev d_minus : FDef := Lib.d_minus
abbrev d_times : FDef := Lib.d_times
abbrev d_over : FDef := Lib.d_over
abbrev d_total : FDef := Lib.d_total
abbrev d_is_below : FDef := Lib.d_is_below
abbrev d_is_share : FDef := Lib.d_is_share
abbrev d_is_amount : FDef := Lib.d_is_amount
abbrev d_solved : FDef := Lib.d_solved
abbrev d_check_amounts : FDef := Lib.d_check_amounts
abbrev d_is_unit : FDef := Lib.d_is_unit
abbrev d_check_sheet : FDef := Lib.d_check_sheet
abbrev d_check_unit : FDef := Lib.d_check_unit
abbrev d_losses_by : FDef := Lib.d_losses_by
abbrev d_reached_from : FDef := Lib.d_reached_from
abbrev d_loses : FDef := Lib.d_loses
abbrev d_kept_part : FDef := Lib.d_kept_part
abbrev d_flow_by : FDef := Lib.d_flow_by
abbrev d_least_flow : FDef := Lib.d_least_flow
abbrev d_thinner : FDef := Lib.d_thinner
abbrev d_bled : FDef := Lib.d_bled
def d_least_bleed : FDef := ⟨"least_bleed", ["sheet", "unit", "amounts", "limit"], ["sheet", "unit", "amounts", "limit", "cut", "flow", "back", "room"],
  [.expr (.call "check_sheet" [.var 0]), .expr (.call "check_unit" [.var 0, .var 1]), .expr (.call "check_amounts" [.var 2, .bi .len [.var 0]]), .ite (.not (.call "is_amount" [.var 3])) [.raise_ "" none] [], .asg (.name 4) (.call "thinner" [.var 0, .var 1, .con "ZERO" (.tuple [(.int 0), (.int 1)])]), .asg (.name 5) (.call "flow_by" [.var 4, .var 2]), .ite (.or (.isN (.var 5)) (.cmp .eq (.idx (.var 5) (.var 1)) (.con "ZERO" (.tuple [(.int 0), (.int 1)])))) [.ret (.ife (.isN (.var 5)) (.lit .none) (.con "ZERO" (.tuple [(.int 0), (.int 1)])))] [], .asg (.name 6) (.call "flow_by" [.var 4, .idx (.var 0) (.var 1)]), .ite (.or (.isN (.var 6)) (.call "is_below" [.var 3, .idx (.var 5) (.var 1)])) [.ret (.lit .none)] [], .asg (.name 7) (.call "minus" [.con "ONE" (.tuple [(.int 1), (.int 1)]), .call "over" [.idx (.var 5) (.var 1), .var 3]]), .ite (.not (.call "is_below" [.var 7, .idx (.var 6) (.var 1)])) [.ret (.con "ZERO" (.tuple [(.int 0), (.int 1)]))] [], .ret (.ife (.cmp .eq (.var 7) (.con "ZERO" (.tuple [(.int 0), (.int 1)]))) (.lit .none) (.call "minus" [.con "ONE" (.tuple [(.int 1), (.int 1)]), .call "over" [.var 7, .idx (.var 6) (.var 1)]]))]⟩
abbrev d__law_tap : FDef := Lib.d__law_tap
abbrev d__law_drop : FDef := Lib.d__law_drop
abbrev d__law_of : FDef := Lib.d__law_of
abbrev d__law_gcd : FDef := Lib.d__law_gcd
abbrev d__law_thin : FDef := Lib.d__law_thin
abbrev d__law_frac : FDef := Lib.d__law_frac
abbrev d__law_add : FDef := Lib.d__law_add
abbrev d__law_less : FDef := Lib.d__law_less
abbrev d__law_times : FDef := Lib.d__law_times
abbrev d__law_over : FDef := Lib.d__law_over
abbrev d__law_side : FDef := Lib.d__law_side
abbrev d__law_total : FDef := Lib.d__law_total
abbrev d__law_amount : FDef := Lib.d__law_amount
abbrev d__law_unit : FDef := Lib.d__law_unit
abbrev d__law_net : FDef := Lib.d__law_net
abbrev d__law_to : FDef := Lib.d__law_to
abbrev d__law_losses : FDef := Lib.d__law_losses
abbrev d__law_ways_out : FDef := Lib.d__law_ways_out
abbrev d__law_solved : FDef := Lib.d__law_solved
abbrev d__law_rest : FDef := Lib.d__law_rest
abbrev d__law_cut_row : FDef := Lib.d__law_cut_row
def d__law_least_part : FDef := ⟨"_law_least_part", ["net", "unit2", "loads", "bound"], ["net", "unit2", "loads", "bound", "still", "part2", "first", "home"],
  [.ite (.isN (.call "_law_rest" [.call "_law_cut_row" [.var 0, .var 1, .tup [.lit (.int 1), .lit (.int 2)]], .var 2])) [.ret (.lit .none)] [], .asg (.name 4) (.call "_law_cut_row" [.var 0, .var 1, .tup [.lit (.int 1), .lit (.int 1)]]), .par [.name 6, .name 7] [.idx (.call "_law_rest" [.var 4, .var 2]) (.var 1), .call "_law_rest" [.var 4, .idx (.var 0) (.var 1)]], .ite (.cmp .eq (.idx (.var 6) (.lit (.int 0))) (.lit (.int 0))) [.ret (.tup [.lit (.int 0), .lit (.int 1)])] [], .ite (.or (.isN (.var 7)) (.or (.cmp .gt (.call "_law_side" [.var 6, .var 3]) (.lit (.int 0))) (.and (.cmp .eq (.var 6) (.var 3)) (.cmp .gt (.idx (.idx (.var 7) (.var 1)) (.lit (.int 0))) (.lit (.int 0)))))) [.ret (.lit .none)] [], .ite (.cmp .eq (.idx (.idx (.var 7) (.var 1)) (.lit (.int 0))) (.lit (.int 0))) [.ret (.tup [.lit (.int 0), .lit (.int 1)])] [], .asg (.name 5) (.call "_law_less" [.tup [.lit (.int 1), .lit (.int 1)], .call "_law_over" [.call "_law_less" [.tup [.lit (.int 1), .lit (.int 1)], .call "_law_over" [.var 6, .var 3]], .idx (.var 7) (.var 1)]]), .ret (.ife (.cmp .gt (.idx (.var 5) (.lit (.int 0))) (.lit (.int 0))) (.var 5) (.tup [.lit (.int 0), .lit (.int 1)]))]⟩
def d__law_right : FDef := ⟨"_law_right", ["tap"], ["tap", "unit2", "at", "some", "bounds", "bound", "net", "loads", "part2", "due", "told", "each", "flow"],
  [.par [.name 6, .name 7] [.callIo "_law_net" (.var 0) [], .lst []], .asg (.name 1) (.callIo "_law_drop" (.var 0) [.bi .len [.var 6]]), .for_ (.name 2) (.range [.bi .len [.var 6]]) [.app 7 (.ife (.cmp .eq (.callIo "_law_drop" (.var 0) [.lit (.int 2)]) (.lit (.int 0))) (.callIo "_law_amount" (.var 0) []) (.tup [.lit (.int 0), .lit (.int 1)]))], .par [.name 7, .name 8] [.bi .tuple [.var 7], .callIo "_law_of" (.var 0) [.lst [.tup [.lit (.int 0), .lit (.int 1)], .tup [.lit (.int 1), .lit (.int 2)], .tup [.lit (.int 1), .lit (.int 3)], .tup [.lit (.int 9), .lit (.int 10)]]]], .asg (.name 3) (.lst [.call "_law_rest" [.call "_law_cut_row" [.var 6, .var 1, .var 8], .var 7], .call "_law_rest" [.call "_law_cut_row" [.var 6, .var 1, .tup [.lit (.int 1), .lit (.int 1)]], .var 7]]), .asg (.name 4) (.comp (.idx (.var 11) (.var 1)) (.name 11) (.var 3) (some (.and (.notN (.var 11)) (.cmp .gt (.idx (.idx (.var 11) (.var 1)) (.lit (.int 0))) (.lit (.int 0))))) [11]), .for_ (.name 5) (.op2 .add (.var 4) (.lst [.callIo "_law_amount" (.var 0) [], .call "_law_add" [.call "_law_total" [.var 7], .tup [.lit (.int 1), .lit (.int 1)]]])) [.asg (.name 9) (.call "_law_least_part" [.var 6, .var 1, .var 7, .var 5]), .asg (.name 10) (.call "least_bleed" [.var 6, .var 1, .var 7, .var 5]), .ite (.cmp .ne (.bi .repr [.lst [.var 10, .callK "least_bleed" ["sheet", "unit", "amounts", "limit"] [.var 6, .var 1, .var 7, .var 5]]]) (.bi .repr [.lst [.var 9, .var 9]])) [.ret (.lit (.bool false))] [], .ite (.notN (.var 10)) [.asg (.name 12) (.call "least_flow" [.call "bled" [.var 6, .var 1, .var 10], .var 7]), .ite (.or (.isN (.var 12)) (.cmp .gt (.call "_law_side" [.idx (.var 12) (.var 1), .var 5]) (.lit (.int 0)))) [.ret (.lit (.bool false))] [], .ite (.cmp .gt (.idx (.var 10) (.lit (.int 0))) (.lit (.int 0))) [.asg (.name 12) (.call "least_flow" [.call "bled" [.var 6, .var 1, .call "_law_times" [.var 10, .tup [.lit (.int 99), .lit (.int 100)]]], .var 7]), .ite (.and (.notN (.var 12)) (.cmp .le (.call "_law_side" [.idx (.var 12) (.var 1), .var 5]) (.lit (.int 0)))) [.ret (.lit (.bool false))] []] []] []], .ret (.lit (.bool true))]⟩
def d_law : FDef := ⟨"law", ["script"], ["script", "turn"],
  [.ret (.bi .all [.comp (.callIo "_law_right" (.call "_law_tap" [.var 0, .var 1]) []) (.name 1) (.range [.lit (.int 2)]) none [1]])]⟩
def P : List FDef := [d_is_whole, d_is_between, d_are_wholes, d_divisor_of, d_lowest, d_is_ratio, d_ratio, d_plus, d_minus, d_times, d_over, d_total, d_is_below, d_is_share, d_is_amount, d_solved, d_check_amounts, d_is_unit, d_check_sheet, d_check_unit, d_losses_by, d_reached_from, d_loses, d_kept_part, d_flow_by, d_least_flow, d_thinner, d_bled, d_least_bleed, d__law_tap, d__law_drop, d__law_of, d__law_gcd, d__law_thin, d__law_frac, d__law_add, d__law_less, d__law_times, d__law_over, d__law_side, d__law_total, d__law_amount, d__law_unit, d__law_net, d__law_to, d__law_losses, d__law_ways_out, d__law_solved, d__law_rest, d__law_cut_row, d__law_least_part, d__law_right, d_law]
instance : Lib.Nd P := ⟨by decide +kernel⟩
instance h_is_whole : Lib.Has P d_is_whole := ⟨List.mem_of_getElem? (i := 0) rfl⟩
instance h_is_between : Lib.Has P d_is_between := ⟨List.mem_of_getElem? (i := 1) rfl⟩
instance h_are_wholes : Lib.Has P d_are_wholes := ⟨List.mem_of_getElem? (i := 2) rfl⟩
instance h_divisor_of : Lib.Has P d_divisor_of := ⟨List.mem_of_getElem? (i := 3) rfl⟩
instance h_lowest : Lib.Has P d_lowest := ⟨List.mem_of_getElem? (i := 4) rfl⟩
instance h_is_ratio : Lib.Has P d_is_ratio := ⟨List.mem_of_getElem? (i := 5) rfl⟩
instance h_ratio : Lib.Has P d_ratio := ⟨List.mem_of_getElem? (i := 6) rfl⟩
instance h_plus : Lib.Has P d_plus := ⟨List.mem_of_getElem? (i := 7) rfl⟩
instance h_minus : Lib.Has P d_minus := ⟨List.mem_of_getElem? (i := 8) rfl⟩
instance h_times : Lib.Has P d_times := ⟨List.mem_of_getElem? (i := 9) rfl⟩
instance h_over : Lib.Has P d_over := ⟨List.mem_of_getElem? (i := 10) rfl⟩
instance h_total : Lib.Has P d_total := ⟨List.mem_of_getElem? (i := 11) rfl⟩
instance h_is_below : Lib.Has P d_is_below := ⟨List.mem_of_getElem? (i := 12) rfl⟩
instance h_is_share : Lib.Has P d_is_share := ⟨List.mem_of_getElem? (i := 13) rfl⟩
instance h_is_amount : Lib.Has P d_is_amount := ⟨List.mem_of_getElem? (i := 14) rfl⟩
instance h_solved : Lib.Has P d_solved := ⟨List.mem_of_getElem? (i := 15) rfl⟩
instance h_check_amounts : Lib.Has P d_check_amounts := ⟨List.mem_of_getElem? (i := 16) rfl⟩
instance h_is_unit : Lib.Has P d_is_unit := ⟨List.mem_of_getElem? (i := 17) rfl⟩
instance h_check_sheet : Lib.Has P d_check_sheet := ⟨List.mem_of_getElem? (i := 18) rfl⟩
instance h_check_unit : Lib.Has P d_check_unit := ⟨List.mem_of_getElem? (i := 19) rfl⟩
instance h_losses_by : Lib.Has P d_losses_by := ⟨List.mem_of_getElem? (i := 20) rfl⟩
instance h_reached_from : Lib.Has P d_reached_from := ⟨List.mem_of_getElem? (i := 21) rfl⟩
instance h_loses : Lib.Has P d_loses := ⟨List.mem_of_getElem? (i := 22) rfl⟩
instance h_kept_part : Lib.Has P d_kept_part := ⟨List.mem_of_getElem? (i := 23) rfl⟩
instance h_flow_by : Lib.Has P d_flow_by := ⟨List.mem_of_getElem? (i := 24) rfl⟩
instance h_least_flow : Lib.Has P d_least_flow := ⟨List.mem_of_getElem? (i := 25) rfl⟩
instance h_thinner : Lib.Has P d_thinner := ⟨List.mem_of_getElem? (i := 26) rfl⟩
instance h_bled : Lib.Has P d_bled := ⟨List.mem_of_getElem? (i := 27) rfl⟩
instance h_least_bleed : Lib.Has P d_least_bleed := ⟨List.mem_of_getElem? (i := 28) rfl⟩
instance h__law_tap : Lib.Has P d__law_tap := ⟨List.mem_of_getElem? (i := 29) rfl⟩
instance h__law_drop : Lib.Has P d__law_drop := ⟨List.mem_of_getElem? (i := 30) rfl⟩
instance h__law_of : Lib.Has P d__law_of := ⟨List.mem_of_getElem? (i := 31) rfl⟩
instance h__law_gcd : Lib.Has P d__law_gcd := ⟨List.mem_of_getElem? (i := 32) rfl⟩
instance h__law_thin : Lib.Has P d__law_thin := ⟨List.mem_of_getElem? (i := 33) rfl⟩
instance h__law_frac : Lib.Has P d__law_frac := ⟨List.mem_of_getElem? (i := 34) rfl⟩
instance h__law_add : Lib.Has P d__law_add := ⟨List.mem_of_getElem? (i := 35) rfl⟩
instance h__law_less : Lib.Has P d__law_less := ⟨List.mem_of_getElem? (i := 36) rfl⟩
instance h__law_times : Lib.Has P d__law_times := ⟨List.mem_of_getElem? (i := 37) rfl⟩
instance h__law_over : Lib.Has P d__law_over := ⟨List.mem_of_getElem? (i := 38) rfl⟩
instance h__law_side : Lib.Has P d__law_side := ⟨List.mem_of_getElem? (i := 39) rfl⟩
instance h__law_total : Lib.Has P d__law_total := ⟨List.mem_of_getElem? (i := 40) rfl⟩
instance h__law_amount : Lib.Has P d__law_amount := ⟨List.mem_of_getElem? (i := 41) rfl⟩
instance h__law_unit : Lib.Has P d__law_unit := ⟨List.mem_of_getElem? (i := 42) rfl⟩
instance h__law_net : Lib.Has P d__law_net := ⟨List.mem_of_getElem? (i := 43) rfl⟩
instance h__law_to : Lib.Has P d__law_to := ⟨List.mem_of_getElem? (i := 44) rfl⟩
instance h__law_losses : Lib.Has P d__law_losses := ⟨List.mem_of_getElem? (i := 45) rfl⟩
instance h__law_ways_out : Lib.Has P d__law_ways_out := ⟨List.mem_of_getElem? (i := 46) rfl⟩
instance h__law_solved : Lib.Has P d__law_solved := ⟨List.mem_of_getElem? (i := 47) rfl⟩
instance h__law_rest : Lib.Has P d__law_rest := ⟨List.mem_of_getElem? (i := 48) rfl⟩
instance h__law_cut_row : Lib.Has P d__law_cut_row := ⟨List.mem_of_getElem? (i := 49) rfl⟩
instance h__law_least_part : Lib.Has P d__law_least_part := ⟨List.mem_of_getElem? (i := 50) rfl⟩
instance h__law_right : Lib.Has P d__law_right := ⟨List.mem_of_getElem? (i := 51) rfl⟩
instance h_law : Lib.Has P d_law := ⟨List.mem_of_getElem? (i := 52) rfl⟩
def kn : Kn := ⟨[("MOST_UNITS", (.int 5)), ("ONE", (.tuple [(.int 1), (.int 1)])), ("ZERO", (.tuple [(.int 0), (.int 1)]))], ["abs", "all", "any", "bool", "divmod", "enumerate", "int", "isinstance", "len", "list", "math.gcd", "range", "repr", "sorted", "sum", "tuple", "zip"]⟩
theorem b_is_whole : Bnd "is_whole" ["value"] (top 9) := ⟨fun _ _ _ _ _ _ us hl => match us, hl with | [_], _ => rfl, fun _ _ _ _ _ _ us hl => match us, hl with | [_], _ => rfl⟩
theorem c_is_whole : ckF P kn d_is_whole (top 9) = true := by decide +kernel
theorem b_is_between : Bnd "is_between" ["value", "low", "high"] (top 10) := ⟨fun _ _ _ _ _ _ us hl => match us, hl with | [_, _, _], _ => rfl, fun _ _ _ _ _ _ us hl => match us, hl with | [_, _, _], _ => rfl⟩
theorem c_is_between : ckF P kn d_is_between (top 10) = true := by decide +kernel
theorem b_are_wholes : Bnd "are_wholes" ["value", "many"] (top 11) := ⟨fun _ _ _ _ _ _ us hl => match us, hl with | [_, _], _ => rfl, fun _ _ _ _ _ _ us hl => match us, hl with | [_, _], _ => rfl⟩
theorem c_are_wholes : ckF P kn d_are_wholes (top 11) = true := by decide +kernel
theorem b_divisor_of : Bnd "divisor_of" ["numbers"] (top 12) := ⟨fun _ _ _ _ _ _ us hl => match us, hl with | [_], _ => rfl, fun _ _ _ _ _ _ us hl => match us, hl with | [_], _ => rfl⟩
theorem c_divisor_of : ckF P kn d_divisor_of (top 12) = true := by decide +kernel
theorem b_lowest : Bnd "lowest" ["numbers"] (top 13) := ⟨fun _ _ _ _ _ _ us hl => match us, hl with | [_], _ => rfl, fun _ _ _ _ _ _ us hl => match us, hl with | [_], _ => rfl⟩
theorem c_lowest : ckF P kn d_lowest (top 13) = true := by decide +kernel
theorem b_is_ratio : Bnd "is_ratio" ["value"] (top 17) := ⟨fun _ _ _ _ _ _ us hl => match us, hl with | [_], _ => rfl, fun _ _ _ _ _ _ us hl => match us, hl with | [_], _ => rfl⟩
theorem c_is_ratio : ckF P kn d_is_ratio (top 17) = true := by decide +kernel
theorem b_ratio : Bnd "ratio" ["top", "low"] (top 18) := ⟨fun _ _ _ _ _ _ us hl => match us, hl with | [_, _], _ => rfl, fun _ _ _ _ _ _ us hl => match us, hl with | [_, _], _ => rfl⟩
theorem c_ratio : ckF P kn d_ratio (top 18) = true := by decide +kernel
theorem b_plus : Bnd "plus" ["one", "two"] (top 19) := ⟨fun _ _ _ _ _ _ us hl => match us, hl with | [_, _], _ => rfl, fun _ _ _ _ _ _ us hl => match us, hl with | [_, _], _ => rfl⟩
theorem c_plus : ckF P kn d_plus (top 19) = true := by decide +kernel
theorem b_minus : Bnd "minus" ["one", "two"] (top 20) := ⟨fun _ _ _ _ _ _ us hl => match us, hl with | [_, _], _ => rfl, fun _ _ _ _ _ _ us hl => match us, hl with | [_, _], _ => rfl⟩
theorem c_minus : ckF P kn d_minus (top 20) = true := by decide +kernel
theorem b_times : Bnd "times" ["one", "two"] (top 21) := ⟨fun _ _ _ _ _ _ us hl => match us, hl with | [_, _], _ => rfl, fun _ _ _ _ _ _ us hl => match us, hl with | [_, _], _ => rfl⟩
theorem c_times : ckF P kn d_times (top 21) = true := by decide +kernel
theorem b_over : Bnd "over" ["one", "two"] (top 22) := ⟨fun _ _ _ _ _ _ us hl => match us, hl with | [_, _], _ => rfl, fun _ _ _ _ _ _ us hl => match us, hl with | [_, _], _ => rfl⟩
theorem c_over : ckF P kn d_over (top 22) = true := by decide +kernel
theorem b_total : Bnd "total" ["fractions"] (top 23) := ⟨fun _ _ _ _ _ _ us hl => match us, hl with | [_], _ => rfl, fun _ _ _ _ _ _ us hl => match us, hl with | [_], _ => rfl⟩
theorem c_total : ckF P kn d_total (top 23) = true := by decide +kernel
theorem b_is_below : Bnd "is_below" ["one", "two"] (top 24) := ⟨fun _ _ _ _ _ _ us hl => match us, hl with | [_, _], _ => rfl, fun _ _ _ _ _ _ us hl => match us, hl with | [_, _], _ => rfl⟩
theorem c_is_below : ckF P kn d_is_below (top 24) = true := by decide +kernel
theorem b_is_share : Bnd "is_share" ["value"] (top 26) := ⟨fun _ _ _ _ _ _ us hl => match us, hl with | [_], _ => rfl, fun _ _ _ _ _ _ us hl => match us, hl with | [_], _ => rfl⟩
theorem c_is_share : ckF P kn d_is_share (top 26) = true := by decide +kernel
theorem b_is_amount : Bnd "is_amount" ["value"] (top 27) := ⟨fun _ _ _ _ _ _ us hl => match us, hl with | [_], _ => rfl, fun _ _ _ _ _ _ us hl => match us, hl with | [_], _ => rfl⟩
theorem c_is_amount : ckF P kn d_is_amount (top 27) = true := by decide +kernel
theorem b_solved : Bnd "solved" ["rows"] (top 29) := ⟨fun _ _ _ _ _ _ us hl => match us, hl with | [_], _ => rfl, fun _ _ _ _ _ _ us hl => match us, hl with | [_], _ => rfl⟩
theorem c_solved : ckF P kn d_solved (top 29) = true := by decide +kernel
theorem b_check_amounts : Bnd "check_amounts" ["value", "many"] (top 31) := ⟨fun _ _ _ _ _ _ us hl => match us, hl with | [_, _], _ => rfl, fun _ _ _ _ _ _ us hl => match us, hl with | [_, _], _ => rfl⟩
theorem c_check_amounts : ckF P kn d_check_amounts (top 31) = true := by decide +kernel
theorem b_is_unit : Bnd "is_unit" ["value", "many"] (top 34) := ⟨fun _ _ _ _ _ _ us hl => match us, hl with | [_, _], _ => rfl, fun _ _ _ _ _ _ us hl => match us, hl with | [_, _], _ => rfl⟩
theorem c_is_unit : ckF P kn d_is_unit (top 34) = true := by decide +kernel
theorem b_check_sheet : Bnd "check_sheet" ["value"] (top 35) := ⟨fun _ _ _ _ _ _ us hl => match us, hl with | [_], _ => rfl, fun _ _ _ _ _ _ us hl => match us, hl with | [_], _ => rfl⟩
theorem c_check_sheet : ckF P kn d_check_sheet (top 35) = true := by decide +kernel
theorem b_check_unit : Bnd "check_unit" ["sheet", "value"] (top 36) := ⟨fun _ _ _ _ _ _ us hl => match us, hl with | [_, _], _ => rfl, fun _ _ _ _ _ _ us hl => match us, hl with | [_, _], _ => rfl⟩
theorem c_check_unit : ckF P kn d_check_unit (top 36) = true := by decide +kernel
theorem b_losses_by : Bnd "losses_by" ["sheet"] (top 37) := ⟨fun _ _ _ _ _ _ us hl => match us, hl with | [_], _ => rfl, fun _ _ _ _ _ _ us hl => match us, hl with | [_], _ => rfl⟩
theorem c_losses_by : ckF P kn d_losses_by (top 37) = true := by decide +kernel
theorem b_reached_from : Bnd "reached_from" ["sheet", "units"] (top 38) := ⟨fun _ _ _ _ _ _ us hl => match us, hl with | [_, _], _ => rfl, fun _ _ _ _ _ _ us hl => match us, hl with | [_, _], _ => rfl⟩
theorem c_reached_from : ckF P kn d_reached_from (top 38) = true := by decide +kernel
theorem b_loses : Bnd "loses" ["sheet", "unit"] (top 39) := ⟨fun _ _ _ _ _ _ us hl => match us, hl with | [_, _], _ => rfl, fun _ _ _ _ _ _ us hl => match us, hl with | [_, _], _ => rfl⟩
theorem c_loses : ckF P kn d_loses (top 39) = true := by decide +kernel
theorem b_kept_part : Bnd "kept_part" ["sheet", "one", "two"] (top 40) := ⟨fun _ _ _ _ _ _ us hl => match us, hl with | [_, _, _], _ => rfl, fun _ _ _ _ _ _ us hl => match us, hl with | [_, _, _], _ => rfl⟩
theorem c_kept_part : ckF P kn d_kept_part (top 40) = true := by decide +kernel
theorem b_flow_by : Bnd "flow_by" ["sheet", "amounts"] (top 41) := ⟨fun _ _ _ _ _ _ us hl => match us, hl with | [_, _], _ => rfl, fun _ _ _ _ _ _ us hl => match us, hl with | [_, _], _ => rfl⟩
theorem c_flow_by : ckF P kn d_flow_by (top 41) = true := by decide +kernel
theorem b_least_flow : Bnd "least_flow" ["sheet", "amounts"] (top 42) := ⟨fun _ _ _ _ _ _ us hl => match us, hl with | [_, _], _ => rfl, fun _ _ _ _ _ _ us hl => match us, hl with | [_, _], _ => rfl⟩
theorem c_least_flow : ckF P kn d_least_flow (top 42) = true := by decide +kernel
theorem b_thinner : Bnd "thinner" ["sheet", "unit", "part"] (top 44) := ⟨fun _ _ _ _ _ _ us hl => match us, hl with | [_, _, _], _ => rfl, fun _ _ _ _ _ _ us hl => match us, hl with | [_, _, _], _ => rfl⟩
theorem c_thinner : ckF P kn d_thinner (top 44) = true := by decide +kernel
theorem b_bled : Bnd "bled" ["sheet", "unit", "part"] (top 45) := ⟨fun _ _ _ _ _ _ us hl => match us, hl with | [_, _, _], _ => rfl, fun _ _ _ _ _ _ us hl => match us, hl with | [_, _, _], _ => rfl⟩
theorem c_bled : ckF P kn d_bled (top 45) = true := by decide +kernel
theorem b_least_bleed : Bnd "least_bleed" ["sheet", "unit", "amounts", "limit"] (top 46) := ⟨fun _ _ _ _ _ _ us hl => match us, hl with | [_, _, _, _], _ => rfl, fun _ _ _ _ _ _ us hl => match us, hl with | [_, _, _, _], _ => rfl⟩
theorem c_least_bleed : ckF P kn d_least_bleed (top 46) = true := by decide +kernel
theorem b__law_tap : Bnd "_law_tap" ["script", "turn"] (top 48) := ⟨fun _ _ _ _ _ _ us hl => match us, hl with | [_, _], _ => rfl, fun _ _ _ _ _ _ us hl => match us, hl with | [_, _], _ => rfl⟩
theorem c__law_tap : ckF P kn d__law_tap (top 48) = true := by decide +kernel
theorem b__law_drop : Bnd "_law_drop" ["tap", "top"] (top 49) := ⟨fun _ _ _ _ _ _ us hl => match us, hl with | [_, _], _ => rfl, fun _ _ _ _ _ _ us hl => match us, hl with | [_, _], _ => rfl⟩
theorem c__law_drop : ckF P kn d__law_drop (top 49) = true := by decide +kernel
theorem b__law_of : Bnd "_law_of" ["tap", "some"] (top 50) := ⟨fun _ _ _ _ _ _ us hl => match us, hl with | [_, _], _ => rfl, fun _ _ _ _ _ _ us hl => match us, hl with | [_, _], _ => rfl⟩
theorem c__law_of : ckF P kn d__law_of (top 50) = true := by decide +kernel
theorem b__law_gcd : Bnd "_law_gcd" ["one", "two"] (top 51) := ⟨fun _ _ _ _ _ _ us hl => match us, hl with | [_, _], _ => rfl, fun _ _ _ _ _ _ us hl => match us, hl with | [_, _], _ => rfl⟩
theorem c__law_gcd : ckF P kn d__law_gcd (top 51) = true := by decide +kernel
theorem b__law_thin : Bnd "_law_thin" ["some"] (top 52) := ⟨fun _ _ _ _ _ _ us hl => match us, hl with | [_], _ => rfl, fun _ _ _ _ _ _ us hl => match us, hl with | [_], _ => rfl⟩
theorem c__law_thin : ckF P kn d__law_thin (top 52) = true := by decide +kernel
theorem b__law_frac : Bnd "_law_frac" ["n", "m"] (top 53) := ⟨fun _ _ _ _ _ _ us hl => match us, hl with | [_, _], _ => rfl, fun _ _ _ _ _ _ us hl => match us, hl with | [_, _], _ => rfl⟩
theorem c__law_frac : ckF P kn d__law_frac (top 53) = true := by decide +kernel
theorem b__law_add : Bnd "_law_add" ["one", "two"] (top 54) := ⟨fun _ _ _ _ _ _ us hl => match us, hl with | [_, _], _ => rfl, fun _ _ _ _ _ _ us hl => match us, hl with | [_, _], _ => rfl⟩
theorem c__law_add : ckF P kn d__law_add (top 54) = true := by decide +kernel
theorem b__law_less : Bnd "_law_less" ["one", "two"] (top 55) := ⟨fun _ _ _ _ _ _ us hl => match us, hl with | [_, _], _ => rfl, fun _ _ _ _ _ _ us hl => match us, hl with | [_, _], _ => rfl⟩
theorem c__law_less : ckF P kn d__law_less (top 55) = true := by decide +kernel
theorem b__law_times : Bnd "_law_times" ["one", "two"] (top 56) := ⟨fun _ _ _ _ _ _ us hl => match us, hl with | [_, _], _ => rfl, fun _ _ _ _ _ _ us hl => match us, hl with | [_, _], _ => rfl⟩
theorem c__law_times : ckF P kn d__law_times (top 56) = true := by decide +kernel
theorem b__law_over : Bnd "_law_over" ["one", "two"] (top 57) := ⟨fun _ _ _ _ _ _ us hl => match us, hl with | [_, _], _ => rfl, fun _ _ _ _ _ _ us hl => match us, hl with | [_, _], _ => rfl⟩
theorem c__law_over : ckF P kn d__law_over (top 57) = true := by decide +kernel
theorem b__law_side : Bnd "_law_side" ["one", "two"] (top 58) := ⟨fun _ _ _ _ _ _ us hl => match us, hl with | [_, _], _ => rfl, fun _ _ _ _ _ _ us hl => match us, hl with | [_, _], _ => rfl⟩
theorem c__law_side : ckF P kn d__law_side (top 58) = true := by decide +kernel
theorem b__law_total : Bnd "_law_total" ["some"] (top 59) := ⟨fun _ _ _ _ _ _ us hl => match us, hl with | [_], _ => rfl, fun _ _ _ _ _ _ us hl => match us, hl with | [_], _ => rfl⟩
theorem c__law_total : ckF P kn d__law_total (top 59) = true := by decide +kernel
theorem b__law_amount : Bnd "_law_amount" ["tap"] (top 60) := ⟨fun _ _ _ _ _ _ us hl => match us, hl with | [_], _ => rfl, fun _ _ _ _ _ _ us hl => match us, hl with | [_], _ => rfl⟩
theorem c__law_amount : ckF P kn d__law_amount (top 60) = true := by decide +kernel
theorem b__law_unit : Bnd "_law_unit" ["tap", "count", "is_shut"] (top 61) := ⟨fun _ _ _ _ _ _ us hl => match us, hl with | [_, _, _], _ => rfl, fun _ _ _ _ _ _ us hl => match us, hl with | [_, _, _], _ => rfl⟩
theorem c__law_unit : ckF P kn d__law_unit (top 61) = true := by decide +kernel
theorem b__law_net : Bnd "_law_net" ["tap"] (top 62) := ⟨fun _ _ _ _ _ _ us hl => match us, hl with | [_], _ => rfl, fun _ _ _ _ _ _ us hl => match us, hl with | [_], _ => rfl⟩
theorem c__law_net : ckF P kn d__law_net (top 62) = true := by decide +kernel
theorem b__law_to : Bnd "_law_to" ["net", "unit2"] (top 63) := ⟨fun _ _ _ _ _ _ us hl => match us, hl with | [_, _], _ => rfl, fun _ _ _ _ _ _ us hl => match us, hl with | [_, _], _ => rfl⟩
theorem c__law_to : ckF P kn d__law_to (top 63) = true := by decide +kernel
theorem b__law_losses : Bnd "_law_losses" ["net"] (top 64) := ⟨fun _ _ _ _ _ _ us hl => match us, hl with | [_], _ => rfl, fun _ _ _ _ _ _ us hl => match us, hl with | [_], _ => rfl⟩
theorem c__law_losses : ckF P kn d__law_losses (top 64) = true := by decide +kernel
theorem b__law_ways_out : Bnd "_law_ways_out" ["net", "unit2"] (top 65) := ⟨fun _ _ _ _ _ _ us hl => match us, hl with | [_, _], _ => rfl, fun _ _ _ _ _ _ us hl => match us, hl with | [_, _], _ => rfl⟩
theorem c__law_ways_out : ckF P kn d__law_ways_out (top 65) = true := by decide +kernel
theorem b__law_solved : Bnd "_law_solved" ["rows2", "rights"] (top 66) := ⟨fun _ _ _ _ _ _ us hl => match us, hl with | [_, _], _ => rfl, fun _ _ _ _ _ _ us hl => match us, hl with | [_, _], _ => rfl⟩
theorem c__law_solved : ckF P kn d__law_solved (top 66) = true := by decide +kernel
theorem b__law_rest : Bnd "_law_rest" ["net", "loads"] (top 67) := ⟨fun _ _ _ _ _ _ us hl => match us, hl with | [_, _], _ => rfl, fun _ _ _ _ _ _ us hl => match us, hl with | [_, _], _ => rfl⟩
theorem c__law_rest : ckF P kn d__law_rest (top 67) = true := by decide +kernel
theorem b__law_cut_row : Bnd "_law_cut_row" ["net", "unit2", "part2"] (top 68) := ⟨fun _ _ _ _ _ _ us hl => match us, hl with | [_, _, _], _ => rfl, fun _ _ _ _ _ _ us hl => match us, hl with | [_, _, _], _ => rfl⟩
theorem c__law_cut_row : ckF P kn d__law_cut_row (top 68) = true := by decide +kernel
theorem b__law_least_part : Bnd "_law_least_part" ["net", "unit2", "loads", "bound"] (top 69) := ⟨fun _ _ _ _ _ _ us hl => match us, hl with | [_, _, _, _], _ => rfl, fun _ _ _ _ _ _ us hl => match us, hl with | [_, _, _, _], _ => rfl⟩
theorem c__law_least_part : ckF P kn d__law_least_part (top 69) = true := by decide +kernel
theorem b__law_right : Bnd "_law_right" ["tap"] (top 70) := ⟨fun _ _ _ _ _ _ us hl => match us, hl with | [_], _ => rfl, fun _ _ _ _ _ _ us hl => match us, hl with | [_], _ => rfl⟩
theorem c__law_right : ckF P kn d__law_right (top 70) = true := by decide +kernel
theorem b_law : Bnd "law" ["script"] (top 71) := ⟨fun _ _ _ _ _ _ us hl => match us, hl with | [_], _ => rfl, fun _ _ _ _ _ _ us hl => match us, hl with | [_], _ => rfl⟩
theorem c_law : ckF P kn d_law (top 71) = true := by decide +kernel
end K88
--GEN /tmp/w/o/K88a.lean
namespace K88
open PySem DL L2 Lib
/-! ### the plain law: a unit that is bled -/
section
variable {n u : Nat} {S : Nat → Nat → Rat} {a : Nat → Rat} {r : Rat}
theorem cut_ne {i j : Nat} (h : i ≠ u) : Lib.cutS S u r i j = S i j := by unfold Lib.cutS; rw [if_neg h]
theorem cut_eq {j : Nat} : Lib.cutS S u r u j = r * S u j := by unfold Lib.cutS; rw [if_pos rfl]
theorem ed_iff {i j : Nat} {T : Nat → Nat → Rat} : ed T i j = true ↔ T i j ≠ 0 := by unfold ed; simp
theorem ed_cut {i j : Nat} (h : r ≠ 0) : ed (Lib.cutS S u r) i j = ed S i j := by
  rw [Bool.eq_iff_iff, ed_iff, ed_iff]
  by_cases g : i = u
  · subst g
    rw [cut_eq]
    exact ⟨fun z q => z (by rw [q]; grind), fun z => Mx.mul_ne h z⟩
  · rw [cut_ne g]
theorem rch_cut (h : r ≠ 0) {U : Nat → Bool} {j : Nat} : Mx.Rch n (ed (Lib.cutS S u r)) U j ↔ Mx.Rch n (ed S) U j := by
  constructor
  · intro q
    induction q with
    | base hj u => exact .base hj u
    | step _ hj e ih => exact ih.step hj (by rw [ed_cut h] at e; exact e)
  · intro q
    induction q with
    | base hj u => exact .base hj u
    | step _ hj e ih => exact ih.step hj (by rw [ed_cut h]; exact e)
theorem rch_up {U : Nat → Bool} {j : Nat} (q : Mx.Rch n (ed (Lib.cutS S u 0)) U j) : Mx.Rch n (ed S) U j := by
  induction q with
  | base hj u => exact .base hj u
  | @step i j _ hj e ih =>
    refine ih.step hj ?_
    rw [ed_iff] at e ⊢
    by_cases g : i = u
    · subst g; rw [cut_eq] at e; exact fun z => e (by grind)
    · rw [cut_ne g] at e; exact e
theorem rch_split {U : Nat → Bool} {j : Nat} (q : Mx.Rch n (ed S) U j) : Mx.Rch n (ed (Lib.cutS S u 0)) U j ∨ (Mx.Rch n (ed (Lib.cutS S u 0)) U u ∧ Mx.Rch n (ed (Lib.cutS S u 0)) (has (S u)) j) := by
  induction q with
  | base hj u => exact .inl (.base hj u)
  | @step i j r hj e ih =>
    have e := ed_iff.mp e
    have stp : i ≠ u → ed ((Lib.cutS S u 0)) i j = true := fun g => ed_iff.mpr (by rw [cut_ne g]; exact e)
    rcases ih with h | ⟨h1, h2⟩
    · by_cases g : i = u
      · subst g
        exact .inr ⟨h, .base hj (by simp [has]; exact e)⟩
      · exact .inl (h.step hj (stp g))
    · by_cases g : i = u
      · subst g
        exact .inr ⟨h1, .base hj (by simp [has]; exact e)⟩
      · exact .inr ⟨h1, h2.step hj (stp g)⟩
theorem rch_join {U : Nat → Bool} {j : Nat} (h1 : Mx.Rch n (ed S) U u) (h2 : Mx.Rch n (ed (Lib.cutS S u 0)) (has (S u)) j) : Mx.Rch n (ed S) U j := by
  induction h2 with
  | base hj q => exact h1.step hj (ed_iff.mpr (by simpa [has] using q))
  | @step i j _ hj e ih =>
    refine ih.step hj ?_
    rw [ed_iff] at e ⊢
    by_cases g : i = u
    · subst g; rw [cut_eq] at e; exact fun z => e (by grind)
    · rw [cut_ne g] at e; exact e
theorem lossy_iff {T : Nat → Nat → Rat} {i : Nat} : lossy n T i = true ↔ ∃ j, Mx.Rch n (ed T) (fun k => k == i) j ∧ 1 - Mx.sm n (T j) ≠ 0 := by
  unfold lossy
  rw [List.any_eq_true]
  constructor
  · rintro ⟨j, hj, q⟩
    exact ⟨j, Mx.mem_rchL.mp hj, by simpa using q⟩
  · rintro ⟨j, hj, q⟩
    exact ⟨j, Mx.mem_rchL.mpr hj, by simpa using q⟩
theorem loss_ne {j : Nat} (h : j ≠ u) : Mx.sm n (Lib.cutS S u r j) = Mx.sm n (S j) := Mx.sm_congr fun k _ => cut_ne h
theorem loss_u : Mx.sm n (Lib.cutS S u r u) = r * Mx.sm n (S u) := by
  rw [← Mx.sm_mul]
  exact Mx.sm_congr fun k _ => cut_eq
theorem loss_low (hS : Mx.Sub n S) (hu : u < n) (r0 : 0 ≤ r) (r1 : r < 1) : 1 - Mx.sm n (Lib.cutS S u r u) ≠ 0 := by
  rw [loss_u]
  have := hS.row u hu
  have p : 0 ≤ Mx.sm n (S u) := Mx.sm_nonneg fun j hj => hS.nn u j hu hj
  have := Rat.mul_le_mul_of_nonneg_left this r0
  grind
theorem lossy_up (hS : Mx.Sub n S) (hu : u < n) (r0 : 0 < r) (r1 : r < 1) {i : Nat} (h : lossy n ((Lib.cutS S u 0)) i = true) : lossy n (Lib.cutS S u r) i = true := by
  obtain ⟨j, q, l⟩ := lossy_iff.mp h
  have q' := (rch_cut (u := u) (r := r) (by grind)).mpr (rch_up q)
  by_cases g : j = u
  · subst g; exact lossy_iff.mpr ⟨_, q', loss_low hS hu (Rat.le_of_lt r0) r1⟩
  · exact lossy_iff.mpr ⟨_, q', by rw [loss_ne g] at l ⊢; exact l⟩
theorem lossy_via (hS : Mx.Sub n S) (hu : u < n) {i : Nat} (h : Mx.Rch n (ed (Lib.cutS S u 0)) (fun k => k == i) u) : lossy n ((Lib.cutS S u 0)) i = true := lossy_iff.mpr ⟨u, h, loss_low hS hu Rat.le_refl (by decide)⟩
theorem lossy_down (hS : Mx.Sub n S) (hu : u < n) {T : Nat → Nat → Rat} (hr : ∀ U : Nat → Bool, ∀ j, Mx.Rch n (ed T) U j ↔ Mx.Rch n (ed S) U j) (hl : ∀ j, j ≠ u → Mx.sm n (T j) = Mx.sm n (S j)) {i : Nat} (h : lossy n T i = true) : lossy n ((Lib.cutS S u 0)) i = true := by
  obtain ⟨j, q, l⟩ := lossy_iff.mp h
  rcases rch_split (u := u) ((hr _ _).mp q) with g | ⟨g, _⟩
  · by_cases e : j = u
    · subst e; exact lossy_via hS hu g
    · exact lossy_iff.mpr ⟨j, g, by rw [hl j e] at l; rw [loss_ne e]; exact l⟩
  · exact lossy_via hS hu g
theorem fine_iff {T : Nat → Nat → Rat} {b : Nat → Rat} : fine n T b = true ↔ ∀ i, Mx.Rch n (ed T) (has b) i → lossy n T i = true := by
  unfold fine
  rw [List.all_eq_true]
  exact ⟨fun h i q => h i (fed_mem.mpr q), fun h i q => h i (fed_mem.mp q)⟩
/-- when a bled sheet has a flow -/
theorem fine_cut (hS : Mx.Sub n S) (hu : u < n) (r0 : 0 < r) (r1 : r < 1) : fine n (Lib.cutS S u r) a = true ↔ fine n ((Lib.cutS S u 0)) a = true ∧ (Mx.Rch n (ed (Lib.cutS S u 0)) (has a) u → fine n ((Lib.cutS S u 0)) (S u) = true) := by
  have hr : ∀ U : Nat → Bool, ∀ j, Mx.Rch n (ed (Lib.cutS S u r)) U j ↔ Mx.Rch n (ed S) U j := fun U j => rch_cut (by grind)
  have dn : ∀ i, lossy n (Lib.cutS S u r) i = true → lossy n ((Lib.cutS S u 0)) i = true := fun i => lossy_down hS hu hr fun j hj => loss_ne hj
  rw [fine_iff, fine_iff, fine_iff]
  constructor
  · intro h
    exact ⟨fun i q => dn i (h i ((hr _ _).mpr (rch_up q))), fun qu i q => dn i (h i ((hr _ _).mpr (rch_join (rch_up qu) q)))⟩
  · rintro ⟨h1, h2⟩ i q
    rcases rch_split (u := u) ((hr _ _).mp q) with g | ⟨g, g2⟩
    · exact lossy_up hS hu r0 r1 (h1 i g)
    · exact lossy_up hS hu r0 r1 (h2 g i g2)
/-! ### flows -/
theorem flow_pos {T : Nat → Nat → Rat} {b X : Nat → Rat} (hT : Mx.Sub n T) (hb : ∀ i, i < n → 0 ≤ b i) (nn : ∀ i, i < n → 0 ≤ X i) (f : FlowX n T b X) {j : Nat} (q : Mx.Rch n (ed T) (has b) j) : 0 < X j := by
  induction q with
  | @base j hj h =>
    have e := f.eq j hj
    have p : 0 ≤ Mx.sm n (fun i => X i * T i j) := Mx.sm_nonneg fun i hi => Rat.mul_nonneg (nn i hi) (hT.nn i j hi hj)
    have := hb j hj
    have : b j ≠ 0 := by simpa [has] using h
    grind
  | @step i j r hj h ih =>
    have e := f.eq j hj
    have le := Mx.sm_le_each (n := n) (f := fun i => X i * T i j) (fun i hi => Rat.mul_nonneg (nn i hi) (hT.nn i j hi hj)) i r.lt
    have t0 : 0 < T i j := by
      have := hT.nn i j r.lt hj
      have := ed_iff.mp h
      grind
    have := Rat.mul_pos ih t0
    have := hb j hj
    grind
end
/-- a sheet with a unit and amounts, and sizes -/
structure Pl (n : Nat) (S : Nat → Nat → Rat) (u : Nat) (a : Nat → Rat) : Prop where
  net : Net n S
  hu : u < n
  ha : Am 9 n a
section
variable {n u : Nat} {S : Nat → Nat → Rat} {a : Nat → Rat} {r : Rat}
theorem Pl.sub (h : Pl n S u a) : Mx.Sub n S := h.net.sheet.sub
theorem sub_cut (h : Mx.Sub n S) (r0 : 0 ≤ r) (r1 : r ≤ 1) : Mx.Sub n (Lib.cutS S u r) := by
  have le : ∀ i j, i < n → j < n → 0 ≤ Lib.cutS S u r i j ∧ Lib.cutS S u r i j ≤ S i j := fun i j hi hj => by
    have := h.nn i j hi hj
    by_cases g : i = u
    · subst g
      rw [cut_eq]
      have a := Rat.mul_nonneg r0 this
      have b := Rat.mul_le_mul_of_nonneg_right r1 this
      grind
    · rw [cut_ne g]; exact ⟨this, Rat.le_refl⟩
  exact ⟨fun i j hi hj => (le i j hi hj).1, fun i hi => Rat.le_trans (Mx.sm_le fun j hj => (le i j hi hj).2) (h.row i hi)⟩
theorem net_sub (h : Pl n S u a) (i : Nat) (hi : i < n) : 0 ≤ S u i := h.sub.nn u i h.hu hi
/-- a cut sheet -/
theorem sheet_cut {s : Nat} (h : Net n S) (r0 : 0 ≤ r) (r1 : r ≤ 1) (hr : Sz s r) (hs : s ≤ 500) : Sheet (s + 9) n (Lib.cutS S u r) := by
  have hS := h.sheet
  refine ⟨hS.one, hS.most, sub_cut hS.sub r0 r1, fun i j hi hj => ?_, by omega⟩
  unfold Lib.cutS
  split
  · exact sz_mul hr (hS.sz i j hi hj)
  · exact (hS.sz i j hi hj).mono (by omega)
/-- with common denominators -/
theorem den_cut {s : Nat} (h : Net n S) (r0 : 0 ≤ r) (r1 : r ≤ 1) (hr : Sz s r) : Den (s + 9) n (Lib.cutS S u r) := by
  obtain ⟨N, v, q⟩ := h.den.ex
  have rd := r.den_pos
  have rn : 0 ≤ r.num := Rat.num_nonneg.mpr r0
  have rl : r.num ≤ (r.den : Int) := le1_num r1
  refine ⟨fun i j => if i = u then r.num * N i j else N i j, fun i => if i = u then r.den * v i else v i, fun i hi => ?_⟩
  obtain ⟨p1, p2, p3⟩ := q i hi
  by_cases g : i = u
  · simp only [if_pos g]
    refine ⟨Nat.mul_pos rd p1, ?_, fun j hj => ?_⟩
    · rw [Nat.pow_add]; exact Nat.mul_lt_mul'' hr.2 p2
    · obtain ⟨n0, n1, e⟩ := p3 j hj
      refine ⟨Int.mul_nonneg rn n0, ?_, ?_⟩
      · have x1 : r.num * N i j ≤ (r.den : Int) * N i j := Int.mul_le_mul_of_nonneg_right rl n0
        have x2 : (r.den : Int) * N i j ≤ (r.den : Int) * (v i : Int) := Int.mul_le_mul_of_nonneg_left n1 (by omega)
        rw [Int.natCast_mul]; omega
      · unfold Lib.cutS
        rw [if_pos g, e, Int.natCast_mul, Rat.intCast_mul, Rat.intCast_mul]
        have er : r = (r.num : Rat) / ((r.den : Int) : Rat) := ((Rat.mkRat_eq_div r.num r.den).symm.trans (Rat.mkRat_self r)).symm
        have dn : ((r.den : Int) : Rat) ≠ 0 := Mx.cast_ne (by omega)
        have vn : (((v i : Nat) : Int) : Rat) ≠ 0 := Mx.cast_ne (by omega)
        have key : ∀ a b c d : Rat, b ≠ 0 → d ≠ 0 → (a / b) * (c / d) = a * c / (b * d) := fun a b c d hb hd => by
          have := Mx.mul_ne hb hd
          grind
        rw [← key _ _ _ _ dn vn, ← er]
  · simp only [if_neg g]
    refine ⟨p1, Nat.lt_of_lt_of_le p2 (Nat.pow_le_pow_right (by omega) (by omega)), fun j hj => ?_⟩
    obtain ⟨n0, n1, e⟩ := p3 j hj
    exact ⟨n0, n1, by rw [cut_ne g]; exact e⟩
end
end K88
--GEN /tmp/w/o/K88a.lean
namespace K88
open PySem DL L2 Lib
section
variable {n u : Nat} {S : Nat → Nat → Rat} {a : Nat → Rat} {r lim : Rat}
theorem c0_sheet (h : Net n S) : Sheet 10 n ((Lib.cutS S u 0)) := sheet_cut (s := 1) h Rat.le_refl (by decide) sz_zero (by omega)
theorem c0_solv (h : Net n S) {b : Nat → Rat} (hb : Am 9 n b) : SolvB 121 n ((Lib.cutS S u 0)) b := fun p B hp hB i j hi hj => (solvB (c0_sheet h) (den_cut (s := 1) h Rat.le_refl (by decide) sz_zero) hb p B hp hB i j hi hj).mono (by omega)
theorem row_am (h : Pl n S u a) : Am 9 n (S u) := ⟨net_sub h, fun i hi => h.net.sheet.sz u i h.hu hi⟩
/-- what comes to the unit first -/
noncomputable def fst (n : Nat) (S : Nat → Nat → Rat) (u : Nat) (a : Nat → Rat) : Rat := flowOf n ((Lib.cutS S u 0)) a u
/-- what of 1 comes back -/
noncomputable def hom (n : Nat) (S : Nat → Nat → Rat) (u : Nat) : Rat := flowOf n ((Lib.cutS S u 0)) (S u) u
theorem fst_ok (h : Pl n S u a) (g : fine n ((Lib.cutS S u 0)) a = true) : FlowX n ((Lib.cutS S u 0)) a (flowOf n ((Lib.cutS S u 0)) a) ∧ (∀ i, i < n → Sz 121 (flowOf n ((Lib.cutS S u 0)) a i)) ∧ ∀ i, i < n → 0 ≤ flowOf n ((Lib.cutS S u 0)) a i := by
  obtain ⟨x, y⟩ := flow_okN (c0_sheet h.net) (c0_solv h.net h.ha) (by omega) g
  exact ⟨x, y, x.nonneg (c0_sheet (u := u) h.net).sub (fine_out (c0_sheet h.net) g) h.ha.nn⟩
theorem hom_ok (h : Pl n S u a) (g : fine n ((Lib.cutS S u 0)) (S u) = true) : FlowX n ((Lib.cutS S u 0)) (S u) (flowOf n ((Lib.cutS S u 0)) (S u)) ∧ (∀ i, i < n → Sz 121 (flowOf n ((Lib.cutS S u 0)) (S u) i)) ∧ ∀ i, i < n → 0 ≤ flowOf n ((Lib.cutS S u 0)) (S u) i := by
  obtain ⟨x, y⟩ := flow_okN (c0_sheet h.net) (c0_solv h.net (row_am h)) (by omega) g
  exact ⟨x, y, x.nonneg (c0_sheet (u := u) h.net).sub (fine_out (c0_sheet h.net) g) (row_am h).nn⟩
theorem fst_reach (h : Pl n S u a) (g : fine n ((Lib.cutS S u 0)) a = true) : fst n S u a ≠ 0 ↔ Mx.Rch n (ed (Lib.cutS S u 0)) (has a) u := by
  obtain ⟨f, _, nn⟩ := fst_ok h g
  constructor
  · intro z
    apply Classical.byContradiction
    intro q
    exact z (f.off u h.hu q)
  · intro q z
    have := flow_pos (c0_sheet (u := u) h.net).sub h.ha.nn nn f q
    unfold fst at z
    grind
/-- with the rest r passed on -/
theorem flow_rel (h : Pl n S u a) (r0 : 0 < r) (r1 : r ≤ 1) (g : fine n ((Lib.cutS S u 0)) a = true) (g2 : fine n ((Lib.cutS S u 0)) (S u) = true) {X : Nat → Rat} (f : FlowX n (Lib.cutS S u r) a X) : X u - r * X u * hom n S u = fst n S u a := by
  obtain ⟨fa, _, _⟩ := fst_ok h g
  obtain ⟨fh, _, _⟩ := hom_ok h g2
  have hS := h.sub
  have hu := h.hu
  let F : Nat → Prop := fun i => Mx.Rch n (ed (Lib.cutS S u r)) (has a) i
  have up : ∀ i, Mx.Rch n (ed (Lib.cutS S u 0)) (has a) i → F i := fun i q => (rch_cut (u := u) (by grind)).mpr (rch_up q)
  have out : ∀ i, i < n → F i → Mx.Out n ((Lib.cutS S u 0)) i := fun i hi q => by
    rcases rch_split (u := u) ((rch_cut (u := u) (by grind)).mp q) with z | ⟨_, z⟩
    · exact fine_out (c0_sheet h.net) g i hi z
    · exact fine_out (c0_sheet h.net) g2 i hi z
  have zf : Mx.Flow n ((Lib.cutS S u 0)) F a fun j => X j - r * X u * flowOf n ((Lib.cutS S u 0)) (S u) j := by
    refine ⟨fun j hj => ?_, fun j hj q => ?_⟩
    · have e1 := f.eq j hj
      have e2 := fh.eq j hj
      have s1 : Mx.sm n (fun i => X i * Lib.cutS S u r i j) = Mx.sm n (fun i => X i * (Lib.cutS S u 0) i j) + r * X u * S u j := by
        have : Mx.sm n (fun i => X i * Lib.cutS S u r i j) = Mx.sm n (fun i => X i * (Lib.cutS S u 0) i j + if i = u then r * X i * S i j else 0) := Mx.sm_congr fun i _ => by
          by_cases q : i = u
          · subst q; rw [if_pos rfl, cut_eq, cut_eq]; grind
          · rw [if_neg q, cut_ne q, cut_ne q]; grind
        rw [this, Mx.sm_add, Mx.sm_single n u hu fun i => r * X i * S i j]
      have s2 : Mx.sm n (fun i => (X i - r * X u * flowOf n ((Lib.cutS S u 0)) (S u) i) * (Lib.cutS S u 0) i j) = Mx.sm n (fun i => X i * (Lib.cutS S u 0) i j) - r * X u * Mx.sm n (fun i => flowOf n ((Lib.cutS S u 0)) (S u) i * (Lib.cutS S u 0) i j) := by
        rw [← Mx.sm_mul, ← Mx.sm_sub]
        exact Mx.sm_congr fun i _ => by grind
      rw [s2]
      rw [s1] at e1
      generalize Mx.sm n (fun i => X i * (Lib.cutS S u 0) i j) = p at *
      generalize Mx.sm n (fun i => flowOf n ((Lib.cutS S u 0)) (S u) i * (Lib.cutS S u 0) i j) = q at *
      generalize flowOf n ((Lib.cutS S u 0)) (S u) j = y at *
      clear fa f fh s1 s2 g g2 up out
      grind
    · have x0 : X j = 0 := f.off j hj q
      by_cases z : X u = 0
      · rw [x0, z]; grind
      · have fu : F u := Classical.byContradiction fun y => z (f.off u hu y)
        have : flowOf n ((Lib.cutS S u 0)) (S u) j = 0 := fh.off j hj fun y => q ((rch_cut (u := u) (by grind)).mpr (rch_join ((rch_cut (u := u) (by grind)).mp fu) y))
        rw [x0, this]; grind
  exact Mx.Flow.unique (c0_sheet (u := u) h.net).sub out zf (fa.mono fun i _ q => up i q) u hu
/-- where the unit is not reached -/
theorem flow_zero (h : Pl n S u a) (r0 : 0 < r) (g : fine n ((Lib.cutS S u 0)) a = true) (z : fst n S u a = 0) {X : Nat → Rat} (f : FlowX n (Lib.cutS S u r) a X) : X u = 0 := by
  refine f.off u h.hu fun q => ?_
  have no : ¬ Mx.Rch n (ed (Lib.cutS S u 0)) (has a) u := fun y => (fst_reach h g).mpr y z
  rcases rch_split (u := u) ((rch_cut (u := u) (by grind)).mp q) with y | ⟨y, _⟩
  · exact no y
  · exact no y
theorem rch_zero (h : Pl n S u a) (g : fine n ((Lib.cutS S u 0)) a = true) (z : fst n S u a = 0) {i : Nat} (q : Mx.Rch n (ed S) (has a) i) : Mx.Rch n (ed (Lib.cutS S u 0)) (has a) i ∧ ¬ Mx.Rch n (ed S) (has a) u := by
  have no : ¬ Mx.Rch n (ed (Lib.cutS S u 0)) (has a) u := fun y => (fst_reach h g).mpr y z
  refine ⟨?_, fun y => ?_⟩
  · rcases rch_split (u := u) q with y | ⟨y, _⟩
    · exact y
    · exact (no y).elim
  · rcases rch_split (u := u) y with y | ⟨y, _⟩
    · exact no y
    · exact no y
theorem rch_one_of {T : Nat → Nat → Rat} {U : Nat → Bool} {i j : Nat} (h1 : Mx.Rch n (ed T) U i) (h2 : Mx.Rch n (ed T) (fun k => k == i) j) : Mx.Rch n (ed T) U j := h2.trans fun k hk z => by
  have : k = i := by simpa using z
  subst this; exact h1
/-- nothing bled: a flow, where the unit is not reached -/
theorem fine_zero (h : Pl n S u a) (g : fine n ((Lib.cutS S u 0)) a = true) (z : fst n S u a = 0) : fine n S a = true := by
  refine fine_iff.mpr fun i q => ?_
  obtain ⟨q0, no⟩ := rch_zero h g z q
  obtain ⟨j, y, l⟩ := lossy_iff.mp (fine_iff.mp g i q0)
  have ys := rch_up y
  have ne : j ≠ u := fun e => no (by subst e; exact rch_one_of q ys)
  exact lossy_iff.mpr ⟨j, ys, by rw [loss_ne ne] at l; exact l⟩
/-- the unit itself reaches a loss, where less than all comes back -/
theorem lossy_home (h : Pl n S u a) (g2 : fine n ((Lib.cutS S u 0)) (S u) = true) (lt : hom n S u < 1) : lossy n S u = true := by
  obtain ⟨fh, _, nn⟩ := hom_ok h g2
  have hS := h.sub
  have hu := h.hu
  apply Classical.byContradiction
  intro z
  have no : ∀ j, Mx.Rch n (ed S) (fun k => k == u) j → Mx.sm n (S j) = 1 := fun j q => by
    apply Classical.byContradiction
    intro y
    exact z (lossy_iff.mpr ⟨j, q, by grind⟩)
  have su := no u (.base hu (by simp))
  have lv := fh.leaves
  rw [su] at lv
  have e : Mx.sm n (fun i => flowOf n ((Lib.cutS S u 0)) (S u) i * (1 - Mx.sm n ((Lib.cutS S u 0) i))) = Mx.sm n (fun i => if i = u then flowOf n ((Lib.cutS S u 0)) (S u) i else 0) := Mx.sm_congr fun i hi => by
    by_cases q : i = u
    · subst q
      rw [if_pos rfl, loss_u]; grind
    · rw [if_neg q, loss_ne q]
      by_cases y : Mx.Rch n (ed (Lib.cutS S u 0)) (has (S u)) i
      · have : Mx.Rch n (ed S) (fun k => k == u) i := rch_join (U := fun k => k == u) (.base hu (by simp)) y
        rw [no i this]; grind
      · rw [fh.off i hi y]; grind
  rw [e, Mx.sm_single n u hu fun i => flowOf n ((Lib.cutS S u 0)) (S u) i] at lv
  unfold hom at lt
  grind
theorem fine_home (h : Pl n S u a) (g : fine n ((Lib.cutS S u 0)) a = true) (g2 : fine n ((Lib.cutS S u 0)) (S u) = true) (lt : hom n S u < 1) : fine n S a = true := by
  have lu := lossy_home h g2 lt
  refine fine_iff.mpr fun i q => ?_
  have l0 : lossy n ((Lib.cutS S u 0)) i = true := by
    rcases rch_split (u := u) q with y | ⟨_, y⟩
    · exact fine_iff.mp g i y
    · exact fine_iff.mp g2 i y
  obtain ⟨j, y, l⟩ := lossy_iff.mp l0
  have ys := rch_up y
  by_cases e : j = u
  · subst e
    obtain ⟨m, ym, lm⟩ := lossy_iff.mp lu
    exact lossy_iff.mpr ⟨m, rch_one_of ys ym, lm⟩
  · exact lossy_iff.mpr ⟨j, ys, by rw [loss_ne e] at l; exact l⟩
/-- the least part -/
noncomputable def lb (n : Nat) (S : Nat → Nat → Rat) (u : Nat) (a : Nat → Rat) (lim : Rat) : Option Rat :=
  if fine n ((Lib.cutS S u 0)) a = true then
    if fst n S u a = 0 then some 0
    else if fine n ((Lib.cutS S u 0)) (S u) = true then
      if lim < fst n S u a then none
      else if 1 - fst n S u a / lim < hom n S u then
        if 1 - fst n S u a / lim = 0 then none else some (1 - (1 - fst n S u a / lim) / hom n S u)
      else some 0
    else none
  else none
theorem cut_one' : Lib.cutS S u 1 = S := by
  funext i j
  by_cases g : i = u
  · subst g; rw [cut_eq]; grind
  · rw [cut_ne g]
/-- what is told is right -/
theorem lb_ok (h : Pl n S u a) (l0 : 0 < lim) {t : Rat} (e : lb n S u a lim = some t) : 0 ≤ t ∧ t < 1 ∧ fine n (Lib.cutS S u (1 - t)) a = true ∧ (∀ X, FlowX n (Lib.cutS S u (1 - t)) a X → X u ≤ lim) ∧
    (0 < t → ∀ X, (∀ i, i < n → 0 ≤ X i) → FlowX n (Lib.cutS S u (1 - t * mkRat 99 100)) a X → lim < X u) := by
  unfold lb at e
  split at e
  · rename_i g
    split at e
    · rename_i z
      cases e
      have e1 : (1 : Rat) - 0 = 1 := by grind
      refine ⟨Rat.le_refl, by decide, ?_, fun X f => ?_, fun z => absurd z (by decide)⟩
      · rw [e1, cut_one']; exact fine_zero h g z
      · rw [flow_zero h (r := 1 - 0) (by grind) g z f]; exact Rat.le_of_lt l0
    · rename_i z
      split at e
      · rename_i g2
        split at e
        · cases e
        · rename_i le
          have le := Rat.not_lt.mp le
          have f0 : 0 ≤ fst n S u a := (fst_ok h g).2.2 u h.hu
          have fp : 0 < fst n S u a := by grind
          have hn : 0 ≤ hom n S u := (hom_ok h g2).2.2 u h.hu
          generalize ef : fst n S u a = F at *
          have dl : F / lim * lim = F := Rat.div_mul_cancel (Rat.ne_of_gt l0)
          have dp : 0 < F / lim := by rw [Rat.div_def]; exact Rat.mul_pos fp (Rat.inv_pos.mpr l0)
          generalize ed' : F / lim = d at *
          have d1 : d ≤ 1 := by
            apply Classical.byContradiction
            intro y
            have := Rat.mul_lt_mul_of_pos_right (Rat.not_le.mp y) l0
            grind
          split at e
          · rename_i rm
            split at e
            · cases e
            · rename_i rz
              cases e
              have hp : 0 < hom n S u := by grind
              have dh : (1 - d) / hom n S u * hom n S u = 1 - d := Rat.div_mul_cancel (Rat.ne_of_gt hp)
              have q0 : 0 < (1 - d) / hom n S u := by rw [Rat.div_def]; exact Rat.mul_pos (by grind) (Rat.inv_pos.mpr hp)
              have q1 : (1 - d) / hom n S u < 1 := by
                rw [Rat.div_lt_iff hp]; grind
              generalize eq : (1 - d) / hom n S u = q at *
              have e1 : 1 - (1 - q) = q := by grind
              rw [e1]
              have fc := (fine_cut (r := q) h.sub h.hu q0 q1).mpr ⟨g, fun _ => g2⟩
              refine ⟨by grind, by grind, fc, fun X f => ?_, fun tp X nn f => ?_⟩
              · have rel := flow_rel h q0 (Rat.le_of_lt q1) g g2 f
                rw [ef] at rel
                have : X u * d = F := by grind
                have : X u * d = lim * d := by grind
                have dz : d ≠ 0 := by grind
                have : X u = lim := by
                  have := congrArg (fun z => z * d⁻¹) this
                  simp only [Rat.mul_assoc, Rat.mul_inv_cancel d dz, Rat.mul_one] at this
                  exact this
                rw [this]; exact Rat.le_refl
              · have c1 : mkRat 99 100 < 1 := by decide +kernel
                have c0 : 0 < mkRat 99 100 := by decide +kernel
                generalize mkRat 99 100 = c at *
                have m1 := Rat.mul_lt_mul_of_pos_left c1 tp
                have m2 := Rat.mul_pos tp c0
                have rel := flow_rel h (r := 1 - (1 - q) * c) (by grind) (by grind) g g2 f
                rw [ef] at rel
                have xu := nn u h.hu
                have xp : 0 < X u := by
                  apply Classical.byContradiction
                  intro y
                  have : X u = 0 := by grind
                  rw [this] at rel; grind
                -- 1 - r h < d
                have k1 := Rat.mul_lt_mul_of_pos_right (show q < 1 - (1 - q) * c by grind) hp
                have k2 := Rat.mul_lt_mul_of_pos_left k1 xp
                rw [dh] at k2
                apply Classical.byContradiction
                intro y
                have y := Rat.not_lt.mp y
                have k3 := Rat.mul_le_mul_of_nonneg_right y (Rat.le_of_lt dp)
                have e4 : (1 - (1 - q) * c) * X u * hom n S u = X u * ((1 - (1 - q) * c) * hom n S u) := by grind
                rw [e4] at rel
                have e5 : X u * (1 - d) = X u - X u * d := by grind
                rw [e5] at k2
                have e6 : lim * d = F := by rw [Rat.mul_comm]; exact dl
                rw [e6] at k3
                generalize X u * ((1 - (1 - q) * c) * hom n S u) = P at *
                generalize X u * d = Y at *
                clear e4 e5 e6 k1 m1 m2 dh dl
                grind
          · rename_i rm
            cases e
            have rm := Rat.not_lt.mp rm
            have e1 : (1 : Rat) - 0 = 1 := by grind
            have lt : hom n S u < 1 := by grind
            refine ⟨Rat.le_refl, by decide, ?_, fun X f => ?_, fun z => absurd z (by decide)⟩
            · rw [e1, cut_one']; exact fine_home h g g2 lt
            · have rel := flow_rel h (r := 1 - 0) (by grind) (by grind) g g2 f
              rw [ef, e1] at rel
              -- X (1 - h) = F = d lim, d ≤ 1 - h
              have xd : d ≤ 1 - hom n S u := by grind
              have : X u * (1 - hom n S u) = d * lim := by grind
              apply Classical.byContradiction
              intro y
              have y := Rat.not_le.mp y
              have k1 := Rat.mul_lt_mul_of_pos_right y (show 0 < 1 - hom n S u by grind)
              have k2 := Rat.mul_le_mul_of_nonneg_right xd (Rat.le_of_lt l0)
              grind
      · cases e
  · cases e
theorem lb_sz (h : Pl n S u a) (sl : Sz 140 lim) (l0 : 0 < lim) {t : Rat} (e : lb n S u a lim = some t) : Sz 390 t := by
  unfold lb at e
  split at e
  · rename_i g
    split at e
    · cases e; exact sz_zero.mono (by omega)
    · split at e
      · rename_i g2
        split at e
        · cases e
        · split at e
          · rename_i rm
            split at e
            · cases e
            · rename_i rz
              cases e
              have s1 : Sz 121 (fst n S u a) := (fst_ok h g).2.1 u h.hu
              have s2 : Sz 121 (hom n S u) := (hom_ok h g2).2.1 u h.hu
              have hz : hom n S u ≠ 0 := by
                intro z
                have f0 : 0 ≤ fst n S u a := (fst_ok h g).2.2 u h.hu
                have le : ¬ lim < fst n S u a := by assumption
                have le := Rat.not_lt.mp le
                have dl : fst n S u a / lim * lim = fst n S u a := Rat.div_mul_cancel (Rat.ne_of_gt l0)
                have d1 : fst n S u a / lim ≤ 1 := by
                  apply Classical.byContradiction
                  intro y
                  have := Rat.mul_lt_mul_of_pos_right (Rat.not_le.mp y) l0
                  grind
                grind
              exact (sz_sub sz_one (sz_div (sz_sub sz_one (sz_div s1 sl (Rat.ne_of_gt l0))) s2 hz)).mono (by omega)
          · cases e; exact sz_zero.mono (by omega)
      · cases e
  · cases e
end
end K88
--GEN /tmp/w/o/K88a.lean
namespace K88
open PySem DL L2 Lib
local macro_rules | `(tactic| walk_at "w1") => `(tactic| (first
  | (with_reducible refine R.lit ?_) | (with_reducible refine R.con ?_)
  | ((with_reducible refine' R.var ?g ?h); (case g => exact rfl))
  | ((with_reducible refine' R.varO ?g ?h); (case g => exact rfl))
  | (with_reducible refine R.op2 ?_) | (with_reducible refine R.cmp ?_) | (with_reducible refine R.idx ?_) | (with_reducible refine R.slc ?_) | (with_reducible refine R.oN ?_) | (with_reducible refine R.oS ?_)
  | (with_reducible refine R.tcmp ?_) | (with_reducible refine R.tnot ?_) | (with_reducible refine R.tand ?_) | (with_reducible refine R.tor ?_) | (with_reducible refine R.tcall ?_) | (with_reducible refine R.tbi ?_) | (with_reducible refine R.tisN ?_) | (with_reducible refine R.tnotN ?_) | (with_reducible refine R.tchain ?_) | (with_reducible refine R.tvar ?_) | (with_reducible refine R.tcallK ?_)
  | (with_reducible refine R.isN ?_) | (with_reducible refine R.notN ?_) | (with_reducible refine R.chain ?_) | (with_reducible refine R.neg ?_) | (with_reducible refine R.not ?_) | (with_reducible refine R.and ?_) | (with_reducible refine R.or ?_) | (with_reducible refine R.ife ?_)
  | (with_reducible refine R.tup ?_) | (with_reducible refine R.lst ?_) | (with_reducible refine R.call ?_) | (with_reducible refine R.callK ?_) | (with_reducible refine R.callIo ?_) | (with_reducible refine R.bi ?_) | (with_reducible refine R.comp ?_) | (with_reducible refine R.index ?_) | (with_reducible refine R.repL ?_) | (with_reducible refine R.listR ?_)
  | (with_reducible refine R.an ?_) | (with_reducible refine R.ac ?_) | (with_reducible refine R.en ?_) | (with_reducible refine R.ec ?_) | (with_reducible refine R.ed ?_) | (with_reducible refine R.eo ?_)
  | ((with_reducible refine' R.erd ?g ?h); (case g => exact rfl)) | ((with_reducible refine' R.ero ?g ?h); (case g => exact rfl))
  | ((with_reducible refine' R.w1 ?g ?h); (case g => exact rfl)) | ((with_reducible refine' R.w2 ?g ?g' ?h); (case g => exact rfl); (case g' => exact rfl)) | ((with_reducible refine' R.ws ?g ?h); (case g => exact rfl))
  | (with_reducible refine R.fval rfl ?_) | (with_reducible refine R.f_l ?_) | (with_reducible refine R.f_t ?_) | (with_reducible refine R.ival rfl ?_) | (with_reducible refine R.i_l ?_) | (with_reducible refine R.i_t ?_) | (with_reducible refine R.i_o ?_) | ((with_reducible refine' R.i_r ?g ?h); (case g => exact rfl))
  | (with_reducible refine R.irange ?_) | (with_reducible refine R.frange ?_) | (with_reducible refine R.ienum ?_) | (with_reducible refine R.fenum ?_) | (with_reducible refine R.izip ?_) | (with_reducible refine R.fzip ?_) | (with_reducible refine R.irev ?_) | (with_reducible refine R.frev ?_) | ((with_reducible refine' R.zip_at ?g ?g' ?h); (case g => exact rfl); (case g' => exact rfl)) | (with_reducible refine R.eq_i ?_) | (with_reducible refine R.ne_i ?_) | (with_reducible refine R.sretN ?_)
  | (with_reducible refine R.sn ?_) | (with_reducible refine R.sc ?_) | (with_reducible refine R.sasg ?_) | (with_reducible refine R.spar ?_) | (with_reducible refine R.sexpr ?_) | (with_reducible refine R.sapp ?_) | (with_reducible refine R.sext ?_) | (with_reducible refine R.sret ?_) | (with_reducible refine R.site ?_) | (with_reducible refine R.sfor ?_)
  | ((with_reducible refine R.nd_ ?n ?h); (case n => first | exact R.nio rfl rfl | exact R.nio rfl (DL.NoOw.ok (by assumption)))) | ((with_reducible refine R.no_ ?n ?h); (case n => first | exact R.nio rfl rfl | exact R.nio rfl (DL.NoOw.ok (by assumption)))) | ((with_reducible refine R.nr_ ?n ?h); (case n => first | exact R.nio rfl rfl | exact R.nio rfl (DL.NoOw.ok (by assumption))))
  | ((with_reducible refine' R.an_name ?n ?h); (case n => first | assumption | exact R.nio rfl rfl | exact R.nio rfl (DL.NoOw.ok (by assumption)))) | ((with_reducible refine' R.an_two ?n ?m ?h); (case n => first | assumption | exact R.nio rfl rfl | exact R.nio rfl (DL.NoOw.ok (by assumption))); (case m => first | assumption | exact R.nio rfl rfl | exact R.nio rfl (DL.NoOw.ok (by assumption)))) | ((with_reducible refine' R.an_three ?n ?m ?o ?h); (case n => first | assumption | exact R.nio rfl rfl | exact R.nio rfl (DL.NoOw.ok (by assumption))); (case m => first | assumption | exact R.nio rfl rfl | exact R.nio rfl (DL.NoOw.ok (by assumption))); (case o => first | assumption | exact R.nio rfl rfl | exact R.nio rfl (DL.NoOw.ok (by assumption)))) | (with_reducible refine R.tt rfl ?_) | (with_reducible refine R.tn ?_) | (with_reducible refine R.tc ?_) | (with_reducible refine R.subd ?_) | ((with_reducible refine' R.own_and ?g ?h); (case g => exact rfl)) | ((with_reducible refine' R.put_at ?g ?g' ?h); (case g => exact rfl); (case g' => exact rfl)) | ((with_reducible refine' R.io_ref ?g ?h); (case g => exact rfl)) | (with_reducible refine R.io_own ?_) | (with_reducible refine R.one_1 ?_) | (with_reducible refine R.setn ?_) | (with_reducible refine R.setd ?_) | (with_reducible refine R.seto ?_) | (with_reducible refine R.setr ?_)
  | ((with_reducible refine' R.find ?g ?h); (case g => exact rfl)) | ((with_reducible refine' R.fino ?g ?h); (case g => exact rfl)) | ((with_reducible refine' R.finr ?g ?g' ?h); (case g => exact rfl); (case g' => exact rfl)) | ((with_reducible refine' R.find' ?g ?g' ?h); (case g => exact rfl); (case g' => exact rfl))
  | (with_reducible refine R.ifT ?_) | (with_reducible refine R.ifF ?_)
  | ((with_reducible refine' R.pow_i ?g ?h); (case g => decide)) | ((with_reducible refine' R.mul_i ?g ?h); (case g => exact mulOk 60 60 (by omega) (by omega) (by decide))) | ((with_reducible refine' R.fdiv_i ?g ?h); (case g => exact divOk (by omega) (by omega))) | ((with_reducible refine' R.mod_i ?g ?h); (case g => omega))
  | (with_reducible refine R.add_i ?_) | (with_reducible refine R.sub_i ?_) | (with_reducible refine R.lt_i ?_) | (with_reducible refine R.le_i ?_) | (with_reducible refine R.gt_i ?_) | (with_reducible refine R.ge_i ?_)
  | ((with_reducible refine' R.idx_l ?g ?h); (case g => exact rfl)) | ((with_reducible refine' R.idx_t ?g ?h); (case g => exact rfl)) | (with_reducible refine R.slc_l ?_) | (with_reducible refine R.slc_t ?_)
  | (with_reducible refine R.len_l ?_) | (with_reducible refine R.len_t ?_) | (with_reducible refine R.tuple_l ?_) | (with_reducible refine R.tuple_t ?_) | (with_reducible refine R.list_l ?_) | (with_reducible refine R.list_t ?_) | (with_reducible refine R.abs_i ?_) | (with_reducible refine R.int_i ?_) | (with_reducible refine R.gcd_i ?_)
  | (with_reducible refine R.isint ?_) | (with_reducible refine R.isbool ?_) | (with_reducible refine R.istuple ?_) | (with_reducible refine R.islist ?_)
  | (with_reducible refine R.sum_is ?_) | (with_reducible refine R.all_bs ?_) | ((with_reducible refine R.any_bs ?_))); (try dsimp only [List.map, List.set, Int.reduceToNat, Bool.not_true, Bool.not_false, DL.restR, DL.gt, DL.wipeR]))
theorem w_is_amount {k : Nat} {q : Rat} {Q E} (h0 : 0 < q) (h : Q (.dat (.bool true)) []) : gam P (k + 4) "is_amount" [.dat (Lib.fr q)] Q E := by
  have hp : 0 < q.num := by
    have := Rat.num_nonneg.mpr (Rat.le_of_lt h0)
    have : q.num ≠ 0 := num_ne (Rat.ne_of_gt h0)
    omega
  refine R.opn Nd.nd (Has.mem (d := d_is_amount)) rfl ?_
  simp only [d_is_amount, Lib.d_is_amount, List.map, List.replicate, List.length_cons, List.length_nil, List.cons_append, List.nil_append, Nat.reduceAdd, Nat.reduceSub]
  (repeat walk_at "w1")
  refine w_is_ratio ?_
  (repeat walk_at "w1")
  simp only [Lib.fr]
  (repeat walk_at "w1")
  rw [decide_eq_true hp]
  exact h
noncomputable def lbD (n : Nat) (S : Nat → Nat → Rat) (u : Nat) (a : Nat → Rat) (lim : Rat) : D := match lb n S u a lim with
  | none => .none
  | some t => Lib.fr t
section
variable {n u : Nat} {S : Nat → Nat → Rat} {a : Nat → Rat} {lim : Rat}
theorem flow_no {T : Nat → Nat → Rat} {b : Nat → Rat} (g : fine n T b = false) : flowD n T b = .none := by unfold flowD; rw [if_neg (by rw [g]; simp)]
theorem flow_yes {T : Nat → Nat → Rat} {b : Nat → Rat} (g : fine n T b = true) : flowD n T b = frT n (flowOf n T b) := by unfold flowD; rw [if_pos g]
theorem lb_a (g : fine n (Lib.cutS S u 0) a = false) : lbD n S u a lim = .none := by unfold lbD lb; rw [if_neg (by rw [g]; simp)]
theorem lb_b (g : fine n (Lib.cutS S u 0) a = true) (z : fst n S u a = 0) : lbD n S u a lim = Lib.fr 0 := by unfold lbD lb; rw [if_pos g, if_pos z]
theorem lb_c (g : fine n (Lib.cutS S u 0) a = true) (z : fst n S u a ≠ 0) (g2 : fine n (Lib.cutS S u 0) (S u) = false) : lbD n S u a lim = .none := by unfold lbD lb; rw [if_pos g, if_neg z, if_neg (by rw [g2]; simp)]
theorem lb_d (g : fine n (Lib.cutS S u 0) a = true) (z : fst n S u a ≠ 0) (g2 : fine n (Lib.cutS S u 0) (S u) = true) (l : lim < fst n S u a) : lbD n S u a lim = .none := by unfold lbD lb; rw [if_pos g, if_neg z, if_pos g2, if_pos l]
theorem lb_e (g : fine n (Lib.cutS S u 0) a = true) (z : fst n S u a ≠ 0) (g2 : fine n (Lib.cutS S u 0) (S u) = true) (l : ¬ lim < fst n S u a) (r : ¬ 1 - fst n S u a / lim < hom n S u) : lbD n S u a lim = Lib.fr 0 := by unfold lbD lb; rw [if_pos g, if_neg z, if_pos g2, if_neg l, if_neg r]
theorem lb_f (g : fine n (Lib.cutS S u 0) a = true) (z : fst n S u a ≠ 0) (g2 : fine n (Lib.cutS S u 0) (S u) = true) (l : ¬ lim < fst n S u a) (r : 1 - fst n S u a / lim < hom n S u) (z2 : 1 - fst n S u a / lim = 0) : lbD n S u a lim = .none := by unfold lbD lb; rw [if_pos g, if_neg z, if_pos g2, if_neg l, if_pos r, if_pos z2]
theorem lb_g (g : fine n (Lib.cutS S u 0) a = true) (z : fst n S u a ≠ 0) (g2 : fine n (Lib.cutS S u 0) (S u) = true) (l : ¬ lim < fst n S u a) (r : 1 - fst n S u a / lim < hom n S u) (z2 : 1 - fst n S u a / lim ≠ 0) : lbD n S u a lim = Lib.fr (1 - (1 - fst n S u a / lim) / hom n S u) := by unfold lbD lb; rw [if_pos g, if_neg z, if_pos g2, if_neg l, if_pos r, if_neg z2]
theorem div_le1 (l0 : 0 < lim) (l : ¬ lim < fst n S u a) : fst n S u a / lim ≤ 1 := by
  have le := Rat.not_lt.mp l
  have dl : fst n S u a / lim * lim = fst n S u a := Rat.div_mul_cancel (Rat.ne_of_gt l0)
  apply Classical.byContradiction
  intro y
  have := Rat.mul_lt_mul_of_pos_right (Rat.not_le.mp y) l0
  grind
theorem w_least_bleed {k : Nat} {Q E} (h : Pl n S u a) (l0 : 0 < lim) (sl : Sz 140 lim) (q : Q (.dat (lbD n S u a lim)) []) : gam P (k + 9) "least_bleed" [.dat (sheetD n S), .dat (.int u), .dat (frT n a), .dat (Lib.fr lim)] Q E := by
  have hS := h.net.sheet
  have hu := h.hu
  have e : sheetD n S = .tuple (tab n fun i => frT n (S i)) := rfl
  refine R.opn Nd.nd (Has.mem (d := d_least_bleed)) rfl ?_
  simp only [d_least_bleed, List.map, List.replicate, List.length_cons, List.length_nil, List.cons_append, List.nil_append, Nat.reduceAdd, Nat.reduceSub]
  (repeat walk_at "w1")
  refine w_check_sheet hS ?_
  (repeat walk_at "w1")
  refine w_check_unit hu ?_
  rw [e]
  (repeat walk_at "w1")
  rw [tab_len]
  refine w_check_amounts h.ha.nn ?_
  (repeat walk_at "w1")
  refine w_is_amount l0 ?_
  dsimp only
  refine R.ifF ?_
  rw [← e]
  (repeat walk_at "w1")
  rw [show PyData.tuple [.int 0, .int 1] = Lib.fr 0 from rfl]
  refine w_thinner hS hu sz_zero (by omega) ?_
  (repeat walk_at "w1")
  refine w_flow_byDN (c0_sheet h.net) (c0_solv h.net h.ha) (by omega) (by omega) ?_
  cases g : fine n (Lib.cutS S u 0) a with
  | false =>
    rw [lb_a g] at q
    rw [flow_no g]
    (repeat walk_at "w1")
    exact q
  | true =>
  rw [flow_yes g]
  simp only [frT]
  (repeat walk_at "w1")
  refine R.ifF ?_
  (repeat walk_at "w1")
  refine R.idx_t (tab_at hu) ?_
  (repeat walk_at "w1")
  refine eq_fr (b := 0) ?_
  (repeat walk_at "w1")
  rw [show flowOf n (Lib.cutS S u 0) a u = fst n S u a from rfl]
  refine R.iteD (fun z => ?_) fun z => ?_
  · rw [lb_b g z] at q
    (repeat walk_at "w1")
    refine R.ifF ?_
    (repeat walk_at "w1")
    exact q
  have s1 : Sz 121 (fst n S u a) := (fst_ok h g).2.1 u hu
  rw [e]
  (repeat walk_at "w1")
  refine R.idx_t (tab_at hu) ?_
  (repeat walk_at "w1")
  refine w_flow_byDN (c0_sheet h.net) (c0_solv h.net (row_am h)) (by omega) (by omega) ?_
  cases g2 : fine n (Lib.cutS S u 0) (S u) with
  | false =>
    rw [lb_c g z g2] at q
    rw [flow_no g2]
    (repeat walk_at "w1")
    exact q
  | true =>
  have s2 : Sz 121 (hom n S u) := (hom_ok h g2).2.1 u hu
  rw [flow_yes g2]
  simp only [frT]
  (repeat walk_at "w1")
  refine R.ifF ?_
  (repeat walk_at "w1")
  refine R.idx_t (tab_at hu) ?_
  (repeat walk_at "w1")
  rw [show flowOf n (Lib.cutS S u 0) a u = fst n S u a from rfl]
  refine w_is_below sl s1 (by omega) ?_
  dsimp only
  refine R.iteD (fun l => ?_) fun l => ?_
  · rw [lb_d g z g2 l] at q
    (repeat walk_at "w1")
    exact q
  (repeat walk_at "w1")
  refine R.idx_t (tab_at hu) ?_
  (repeat walk_at "w1")
  rw [show flowOf n (Lib.cutS S u 0) a u = fst n S u a from rfl]
  refine w_overG s1 sl (by omega) (Rat.ne_of_gt l0) ?_
  (repeat walk_at "w1")
  refine w_minus (a := 1) sz_one (sz_div s1 sl (Rat.ne_of_gt l0)) (by omega) ?_
  have sr : Sz 263 (1 - fst n S u a / lim) := sz_sub sz_one (sz_div s1 sl (Rat.ne_of_gt l0))
  (repeat walk_at "w1")
  refine R.idx_t (tab_at hu) ?_
  (repeat walk_at "w1")
  rw [show flowOf n (Lib.cutS S u 0) (S u) u = hom n S u from rfl]
  refine w_is_below sr s2 (by omega) ?_
  dsimp only
  refine R.iteN (fun r => ?_) fun r => ?_
  · rw [lb_e g z g2 l r] at q
    (repeat walk_at "w1")
    exact q
  (repeat walk_at "w1")
  refine eq_fr (b := 0) ?_
  (repeat walk_at "w1")
  refine R.iteD (fun z2 => ?_) fun z2 => ?_
  · rw [lb_f g z g2 l r z2] at q
    (repeat walk_at "w1")
    exact q
  rw [lb_g g z g2 l r z2] at q
  have d1 := div_le1 l0 l
  have hz : hom n S u ≠ 0 := by grind
  (repeat walk_at "w1")
  refine R.idx_t (tab_at hu) ?_
  (repeat walk_at "w1")
  rw [show flowOf n (Lib.cutS S u 0) (S u) u = hom n S u from rfl]
  refine w_overG sr s2 (by omega) hz ?_
  (repeat walk_at "w1")
  refine w_minus (a := 1) sz_one (sz_div sr s2 hz) (by omega) ?_
  (repeat walk_at "w1")
  exact q
theorem half_fr : PyData.tuple [.int 1, .int 2] = Lib.fr (mkRat 1 2) := by
  have e1 : (mkRat 1 2).num = 1 := by decide +kernel
  have e2 : (mkRat 1 2).den = 2 := by decide +kernel
  simp only [Lib.fr, e1, e2]; rfl
theorem half_sz : Sz 4 (mkRat 1 2) := sz_mk _ _ _ (by omega) (by decide) (by omega)
theorem half_in : 0 < mkRat 1 2 ∧ mkRat 1 2 < 1 := ⟨by decide +kernel, by decide +kernel⟩
theorem cut_solv {s : Nat} {p : Rat} (h : Net n S) (p0 : 0 ≤ p) (p1 : p ≤ 1) (hp : Sz s (1 - p)) (hs : s ≤ 399) {b : Nat → Rat} (hb : Am 9 n b) : SolvB (6 * s + 115) n (Lib.cutS S u (1 - p)) b := fun q B hq hB i j hi hj =>
  (solvB (sheet_cut (s := s) h (by grind) (by grind) hp (by omega)) (den_cut (s := s) h (by grind) (by grind) hp) hb q B hq hB i j hi hj).mono (by omega)
theorem one_less : (1 : Rat) - 1 = 0 := by grind
theorem wl_least_part {k : Nat} {Q E} (h : Pl n S u a) (l0 : 0 < lim) (sl : Sz 140 lim) (q : Q (.dat (lbD n S u a lim)) []) : gam P (k + 9) "_law_least_part" [.dat (sheetD n S), .dat (.int u), .dat (frT n a), .dat (Lib.fr lim)] Q E := by
  have hS := h.net.sheet
  have hu := h.hu
  have e : sheetD n S = .tuple (tab n fun i => frT n (S i)) := rfl
  have sh : Sz 6 (1 - mkRat 1 2) := sz_sub sz_one half_sz
  refine R.opn Nd.nd (Has.mem (d := d__law_least_part)) rfl ?_
  simp only [d__law_least_part, List.map, List.replicate, List.length_cons, List.length_nil, List.cons_append, List.nil_append, Nat.reduceAdd, Nat.reduceSub]
  (repeat walk_at "w1")
  rw [half_fr]
  refine wl_cut_row hS hu half_sz (by omega) ?_
  (repeat walk_at "w1")
  refine wl_restN (sheet_cut (s := 6) h.net (by have := half_in; grind) (by have := half_in; grind) sh (by omega)) h.ha.nn (cut_solv (s := 6) h.net (Rat.le_of_lt half_in.1) (Rat.le_of_lt half_in.2) sh (by omega) h.ha) (by omega) (by omega) ?_
  have fc := fine_cut (a := a) (r := 1 - mkRat 1 2) h.sub hu (by have := half_in; grind) (by have := half_in; grind)
  cases gh : fine n (Lib.cutS S u (1 - mkRat 1 2)) a with
  | false =>
    rw [flow_no gh]
    have : lbD n S u a lim = .none := by
      cases g : fine n (Lib.cutS S u 0) a with
      | false => exact lb_a g
      | true =>
        by_cases z : fst n S u a = 0
        · exact absurd (fc.mpr ⟨g, fun y => absurd z ((fst_reach h g).mpr y)⟩) (by rw [gh]; simp)
        · cases g2 : fine n (Lib.cutS S u 0) (S u) with
          | false => exact lb_c g z g2
          | true => exact absurd (fc.mpr ⟨g, fun _ => g2⟩) (by rw [gh]; simp)
    rw [this] at q
    (repeat walk_at "w1")
    exact q
  | true =>
  obtain ⟨g, gb⟩ := fc.mp gh
  have s1 : Sz 121 (fst n S u a) := (fst_ok h g).2.1 u hu
  rw [flow_yes gh]
  simp only [frT]
  (repeat walk_at "w1")
  refine R.ifF ?_
  (repeat walk_at "w1")
  rw [show PyData.tuple [.int 1, .int 1] = Lib.fr 1 from rfl]
  refine wl_cut_row hS hu sz_one (by omega) ?_
  rw [one_less]
  (repeat walk_at "w1")
  rw [show PyData.tuple (tab n fun j => Lib.fr (a j)) = frT n a from rfl]
  refine wl_restN (c0_sheet h.net) h.ha.nn (c0_solv h.net h.ha) (by omega) (by omega) ?_
  rw [flow_yes g]
  simp only [frT]
  (repeat walk_at "w1")
  refine R.idx_t (tab_at hu) ?_
  rw [e]
  (repeat walk_at "w1")
  refine R.idx_t (tab_at hu) ?_
  (repeat walk_at "w1")
  rw [show flowOf n (Lib.cutS S u 0) a u = fst n S u a from rfl]
  refine wl_restN (c0_sheet h.net) (row_am h).nn (c0_solv h.net (row_am h)) (by omega) (by omega) ?_
  by_cases z : fst n S u a = 0
  · rw [lb_b g z] at q
    simp only [Lib.fr]
    (repeat walk_at "w1")
    rw [num_ne_iff, decide_eq_true z]
    refine R.ifT ?_
    (repeat walk_at "w1")
    exact q
  have g2 := gb ((fst_reach h g).mp z)
  have s2 : Sz 121 (hom n S u) := (hom_ok h g2).2.1 u hu
  have h0 : 0 ≤ hom n S u := (hom_ok h g2).2.2 u hu
  rw [flow_yes g2]
  simp only [Lib.fr]
  (repeat walk_at "w1")
  rw [num_ne_iff, decide_eq_false z]
  refine R.ifF ?_
  rw [show PyData.tuple [.int (fst n S u a).num, .int ((fst n S u a).den : Int)] = Lib.fr (fst n S u a) from rfl, show PyData.tuple [.int lim.num, .int (lim.den : Int)] = Lib.fr lim from rfl]
  simp only [frT]
  (repeat walk_at "w1")
  refine R.ifF ?_
  (repeat walk_at "w1")
  refine wl_side s1 sl (by omega) ?_
  (repeat walk_at "w1")
  have sp : decide (0 < side (fst n S u a) lim) = decide (lim < fst n S u a) := by
    unfold side
    by_cases y : lim < fst n S u a
    · rw [if_pos y]; simp [y]
    · rw [if_neg y]
      split <;> simp [y]
  rw [sp]
  refine R.iteD (fun l => ?_) fun l => ?_
  · rw [lb_d g z g2 l] at q
    (repeat walk_at "w1")
    exact q
  have d1 := div_le1 l0 l
  have dl : fst n S u a / lim * lim = fst n S u a := Rat.div_mul_cancel (Rat.ne_of_gt l0)
  (repeat walk_at "w1")
  refine eq_fr ?_
  (repeat walk_at "w1")
  refine R.iteD (fun eq => ?_) fun eq => ?_
  · have r0 : 1 - fst n S u a / lim = 0 := by
      have : fst n S u a / lim = 1 := by rw [eq, Rat.div_def]; exact Rat.mul_inv_cancel _ (Rat.ne_of_gt l0)
      rw [this]; grind
    (repeat walk_at "w1")
    refine R.idx_t (tab_at hu) ?_
    simp only [Lib.fr]
    (repeat walk_at "w1")
    rw [show flowOf n (Lib.cutS S u 0) (S u) u = hom n S u from rfl, num_pos_iff h0]
    refine R.iteN (fun hz => ?_) fun hz => ?_
    · rw [lb_f g z g2 l (by rw [r0]; grind) r0] at q
      (repeat walk_at "w1")
      exact q
    · rw [lb_e g z g2 l (by rw [r0, hz]; grind)] at q
      (repeat walk_at "w1")
      refine R.idx_t (tab_at hu) ?_
      (repeat walk_at "w1")
      rw [show flowOf n (Lib.cutS S u 0) (S u) u = hom n S u from rfl, num_ne_iff, decide_eq_true hz]
      refine R.ifT ?_
      (repeat walk_at "w1")
      exact q
  · (repeat walk_at "w1")
    refine R.idx_t (tab_at hu) ?_
    simp only [Lib.fr]
    (repeat walk_at "w1")
    rw [show flowOf n (Lib.cutS S u 0) (S u) u = hom n S u from rfl, num_ne_iff]
    refine R.iteD (fun hz => ?_) fun hz => ?_
    · rw [lb_e g z g2 l (by rw [hz]; grind)] at q
      (repeat walk_at "w1")
      exact q
    rw [show PyData.tuple [.int (fst n S u a).num, .int ((fst n S u a).den : Int)] = Lib.fr (fst n S u a) from rfl, show PyData.tuple [.int lim.num, .int (lim.den : Int)] = Lib.fr lim from rfl]
    (repeat walk_at "w1")
    rw [show PyData.tuple [.int 1, .int 1] = Lib.fr 1 from rfl]
    refine wl_over s1 sl (by omega) (Rat.ne_of_gt l0) ?_
    (repeat walk_at "w1")
    refine wl_less (a := 1) sz_one (sz_div s1 sl (Rat.ne_of_gt l0)) (by omega) ?_
    have sr : Sz 263 (1 - fst n S u a / lim) := sz_sub sz_one (sz_div s1 sl (Rat.ne_of_gt l0))
    (repeat walk_at "w1")
    refine R.idx_t (tab_at hu) ?_
    (repeat walk_at "w1")
    rw [show PyData.tuple [.int (flowOf n (Lib.cutS S u 0) (S u) u).num, .int ((flowOf n (Lib.cutS S u 0) (S u) u).den : Int)] = Lib.fr (hom n S u) from rfl]
    refine wl_over sr s2 (by omega) hz ?_
    (repeat walk_at "w1")
    refine wl_less (a := 1) sz_one (sz_div sr s2 hz) (by omega) ?_
    have hp : 0 < hom n S u := by grind
    have dh : (1 - fst n S u a / lim) / hom n S u * hom n S u = 1 - fst n S u a / lim := Rat.div_mul_cancel hz
    have nn : ∀ {x : Rat}, decide (0 < x.num) = decide (0 < x) := fun {x} => by
      rw [decide_eq_decide]
      exact ⟨fun y => by
        have a1 := Rat.num_nonneg (q := x)
        have : 0 ≤ x := a1.mp (by omega)
        have : x ≠ 0 := fun w => by rw [w] at y; exact absurd y (by decide)
        grind, fun y => by
        have a1 := Rat.num_nonneg.mpr (Rat.le_of_lt y)
        have := num_ne (b := x) (by grind)
        omega⟩
    refine R.nd_ (R.nio rfl rfl) ?_
    generalize eqp : 1 - (1 - fst n S u a / lim) / hom n S u = p at *
    simp only [Lib.fr]
    (repeat walk_at "w1")
    rw [nn]
    refine R.iteD (fun pp => ?_) fun pp => ?_
    · have r : 1 - fst n S u a / lim < hom n S u := by
        have y : (1 - fst n S u a / lim) / hom n S u < 1 := by grind
        have := (Rat.div_lt_iff hp).mp y
        grind
      have z2 : 1 - fst n S u a / lim ≠ 0 := fun w => by
        have : fst n S u a / lim = 1 := by grind
        rw [this] at dl
        grind
      rw [lb_g g z g2 l r z2, eqp] at q
      (repeat walk_at "w1")
      exact q
    · have r : ¬ 1 - fst n S u a / lim < hom n S u := fun y => pp (by
        have := (Rat.div_lt_iff hp (a := 1 - fst n S u a / lim) (c := 1)).mpr (by grind)
        grind)
      rw [lb_e g z g2 l r] at q
      (repeat walk_at "w1")
      exact q
end
end K88
--GEN /tmp/w/o/K88a.lean
namespace K88
open PySem DL L2 Lib
local macro_rules | `(tactic| walk_at "w1") => `(tactic| (first
  | (with_reducible refine R.lit ?_) | (with_reducible refine R.con ?_)
  | ((with_reducible refine' R.var ?g ?h); (case g => exact rfl))
  | ((with_reducible refine' R.varO ?g ?h); (case g => exact rfl))
  | (with_reducible refine R.op2 ?_) | (with_reducible refine R.cmp ?_) | (with_reducible refine R.idx ?_) | (with_reducible refine R.slc ?_) | (with_reducible refine R.oN ?_) | (with_reducible refine R.oS ?_)
  | (with_reducible refine R.tcmp ?_) | (with_reducible refine R.tnot ?_) | (with_reducible refine R.tand ?_) | (with_reducible refine R.tor ?_) | (with_reducible refine R.tcall ?_) | (with_reducible refine R.tbi ?_) | (with_reducible refine R.tisN ?_) | (with_reducible refine R.tnotN ?_) | (with_reducible refine R.tchain ?_) | (with_reducible refine R.tvar ?_) | (with_reducible refine R.tcallK ?_)
  | (with_reducible refine R.isN ?_) | (with_reducible refine R.notN ?_) | (with_reducible refine R.chain ?_) | (with_reducible refine R.neg ?_) | (with_reducible refine R.not ?_) | (with_reducible refine R.and ?_) | (with_reducible refine R.or ?_) | (with_reducible refine R.ife ?_)
  | (with_reducible refine R.tup ?_) | (with_reducible refine R.lst ?_) | (with_reducible refine R.call ?_) | (with_reducible refine R.callK ?_) | (with_reducible refine R.callIo ?_) | (with_reducible refine R.bi ?_) | (with_reducible refine R.comp ?_) | (with_reducible refine R.index ?_) | (with_reducible refine R.repL ?_) | (with_reducible refine R.listR ?_)
  | (with_reducible refine R.an ?_) | (with_reducible refine R.ac ?_) | (with_reducible refine R.en ?_) | (with_reducible refine R.ec ?_) | (with_reducible refine R.ed ?_) | (with_reducible refine R.eo ?_)
  | ((with_reducible refine' R.erd ?g ?h); (case g => exact rfl)) | ((with_reducible refine' R.ero ?g ?h); (case g => exact rfl))
  | ((with_reducible refine' R.w1 ?g ?h); (case g => exact rfl)) | ((with_reducible refine' R.w2 ?g ?g' ?h); (case g => exact rfl); (case g' => exact rfl)) | ((with_reducible refine' R.ws ?g ?h); (case g => exact rfl))
  | (with_reducible refine R.fval rfl ?_) | (with_reducible refine R.f_l ?_) | (with_reducible refine R.f_t ?_) | (with_reducible refine R.ival rfl ?_) | (with_reducible refine R.i_l ?_) | (with_reducible refine R.i_t ?_) | (with_reducible refine R.i_o ?_) | ((with_reducible refine' R.i_r ?g ?h); (case g => exact rfl))
  | (with_reducible refine R.irange ?_) | (with_reducible refine R.frange ?_) | (with_reducible refine R.ienum ?_) | (with_reducible refine R.fenum ?_) | (with_reducible refine R.izip ?_) | (with_reducible refine R.fzip ?_) | (with_reducible refine R.irev ?_) | (with_reducible refine R.frev ?_) | ((with_reducible refine' R.zip_at ?g ?g' ?h); (case g => exact rfl); (case g' => exact rfl)) | (with_reducible refine R.eq_i ?_) | (with_reducible refine R.ne_i ?_) | (with_reducible refine R.sretN ?_)
  | (with_reducible refine R.sn ?_) | (with_reducible refine R.sc ?_) | (with_reducible refine R.sasg ?_) | (with_reducible refine R.spar ?_) | (with_reducible refine R.sexpr ?_) | (with_reducible refine R.sapp ?_) | (with_reducible refine R.sext ?_) | (with_reducible refine R.sret ?_) | (with_reducible refine R.site ?_) | (with_reducible refine R.sfor ?_)
  | ((with_reducible refine R.nd_ ?n ?h); (case n => first | exact R.nio rfl rfl | exact R.nio rfl (DL.NoOw.ok (by assumption)))) | ((with_reducible refine R.no_ ?n ?h); (case n => first | exact R.nio rfl rfl | exact R.nio rfl (DL.NoOw.ok (by assumption)))) | ((with_reducible refine R.nr_ ?n ?h); (case n => first | exact R.nio rfl rfl | exact R.nio rfl (DL.NoOw.ok (by assumption))))
  | ((with_reducible refine' R.an_name ?n ?h); (case n => first | assumption | exact R.nio rfl rfl | exact R.nio rfl (DL.NoOw.ok (by assumption)))) | ((with_reducible refine' R.an_two ?n ?m ?h); (case n => first | assumption | exact R.nio rfl rfl | exact R.nio rfl (DL.NoOw.ok (by assumption))); (case m => first | assumption | exact R.nio rfl rfl | exact R.nio rfl (DL.NoOw.ok (by assumption)))) | ((with_reducible refine' R.an_three ?n ?m ?o ?h); (case n => first | assumption | exact R.nio rfl rfl | exact R.nio rfl (DL.NoOw.ok (by assumption))); (case m => first | assumption | exact R.nio rfl rfl | exact R.nio rfl (DL.NoOw.ok (by assumption))); (case o => first | assumption | exact R.nio rfl rfl | exact R.nio rfl (DL.NoOw.ok (by assumption)))) | (with_reducible refine R.tt rfl ?_) | (with_reducible refine R.tn ?_) | (with_reducible refine R.tc ?_) | (with_reducible refine R.subd ?_) | ((with_reducible refine' R.own_and ?g ?h); (case g => exact rfl)) | ((with_reducible refine' R.put_at ?g ?g' ?h); (case g => exact rfl); (case g' => exact rfl)) | ((with_reducible refine' R.io_ref ?g ?h); (case g => exact rfl)) | (with_reducible refine R.io_own ?_) | (with_reducible refine R.one_1 ?_) | (with_reducible refine R.setn ?_) | (with_reducible refine R.setd ?_) | (with_reducible refine R.seto ?_) | (with_reducible refine R.setr ?_)
  | ((with_reducible refine' R.find ?g ?h); (case g => exact rfl)) | ((with_reducible refine' R.fino ?g ?h); (case g => exact rfl)) | ((with_reducible refine' R.finr ?g ?g' ?h); (case g => exact rfl); (case g' => exact rfl)) | ((with_reducible refine' R.find' ?g ?g' ?h); (case g => exact rfl); (case g' => exact rfl))
  | (with_reducible refine R.ifT ?_) | (with_reducible refine R.ifF ?_)
  | ((with_reducible refine' R.pow_i ?g ?h); (case g => decide)) | ((with_reducible refine' R.mul_i ?g ?h); (case g => exact mulOk 60 60 (by omega) (by omega) (by decide))) | ((with_reducible refine' R.fdiv_i ?g ?h); (case g => exact divOk (by omega) (by omega))) | ((with_reducible refine' R.mod_i ?g ?h); (case g => omega))
  | (with_reducible refine R.add_i ?_) | (with_reducible refine R.sub_i ?_) | (with_reducible refine R.lt_i ?_) | (with_reducible refine R.le_i ?_) | (with_reducible refine R.gt_i ?_) | (with_reducible refine R.ge_i ?_)
  | ((with_reducible refine' R.idx_l ?g ?h); (case g => exact rfl)) | ((with_reducible refine' R.idx_t ?g ?h); (case g => exact rfl)) | (with_reducible refine R.slc_l ?_) | (with_reducible refine R.slc_t ?_)
  | (with_reducible refine R.len_l ?_) | (with_reducible refine R.len_t ?_) | (with_reducible refine R.tuple_l ?_) | (with_reducible refine R.tuple_t ?_) | (with_reducible refine R.list_l ?_) | (with_reducible refine R.list_t ?_) | (with_reducible refine R.abs_i ?_) | (with_reducible refine R.int_i ?_) | (with_reducible refine R.gcd_i ?_)
  | (with_reducible refine R.isint ?_) | (with_reducible refine R.isbool ?_) | (with_reducible refine R.istuple ?_) | (with_reducible refine R.islist ?_)
  | (with_reducible refine R.sum_is ?_) | (with_reducible refine R.all_bs ?_) | ((with_reducible refine R.any_bs ?_))); (try dsimp only [List.map, List.set, Int.reduceToNat, Bool.not_true, Bool.not_false, DL.restR, DL.gt, DL.wipeR]))
section
variable {n u : Nat} {S : Nat → Nat → Rat} {a : Nat → Rat} {lim : Rat}
theorem lbD_sh (h : Pl n S u a) (l0 : 0 < lim) (sl : Sz 140 lim) : Sh 1 3852 (lbD n S u a lim) := by
  unfold lbD
  cases e : lb n S u a lim with
  | none => exact sh_none.mono (by omega) (by omega)
  | some t => exact sh_fr (lb_sz h sl l0 e) (by omega)
theorem two_sh (h : Pl n S u a) (l0 : 0 < lim) (sl : Sz 140 lim) : Sh 2 15420 (.list [lbD n S u a lim, lbD n S u a lim]) := by
  have := sh_list (e := 1) (L := 3852) (xs := [lbD n S u a lim, lbD n S u a lim]) fun x hx => by
    simp only [List.mem_cons, List.not_mem_nil, or_false] at hx
    rcases hx with rfl | rfl
    · exact lbD_sh h l0 sl
    · exact lbD_sh h l0 sl
  exact this.mono (by omega) (by simp)
/-- the flow with a part bled -/
theorem w_bled_flow {k : Nat} {t : Rat} {Q E} (h : Pl n S u a) (t0 : 0 ≤ t) (t1 : t < 1) (st : Sz 397 t) (q : Q (.dat (flowD n (Lib.cutS S u (1 - t)) a)) []) : gam P (k + 9) "least_flow" [.dat (sheetD n (Lib.cutS S u (1 - t))), .dat (frT n a)] Q E :=
  w_least_flowDN (sheet_cut (s := 399) h.net (by grind) (by grind) (sz_sub sz_one st) (by omega)) h.ha.nn (cut_solv (s := 399) h.net t0 (Rat.le_of_lt t1) (sz_sub sz_one st) (by omega) h.ha) (by omega) (by omega) q
theorem bled_ok {t : Rat} (h : Pl n S u a) (t0 : 0 ≤ t) (t1 : t < 1) (st : Sz 397 t) (g : fine n (Lib.cutS S u (1 - t)) a = true) : FlowX n (Lib.cutS S u (1 - t)) a (flowOf n (Lib.cutS S u (1 - t)) a) ∧ (∀ i, i < n → Sz 2510 (flowOf n (Lib.cutS S u (1 - t)) a i)) ∧ ∀ i, i < n → 0 ≤ flowOf n (Lib.cutS S u (1 - t)) a i := by
  have hS := sheet_cut (u := u) (s := 399) h.net (r := 1 - t) (by grind) (by grind) (sz_sub sz_one st) (by omega)
  obtain ⟨x, y⟩ := flow_okN hS (cut_solv (s := 399) h.net t0 (Rat.le_of_lt t1) (sz_sub sz_one st) (by omega) h.ha) (by omega) g
  exact ⟨x, fun i hi => (y i hi).mono (by omega), x.nonneg hS.sub (fine_out hS g) h.ha.nn⟩
theorem c99_fr : PyData.tuple [.int 99, .int 100] = Lib.fr (mkRat 99 100) := by
  have e1 : (mkRat 99 100).num = 99 := by decide +kernel
  have e2 : (mkRat 99 100).den = 100 := by decide +kernel
  simp only [Lib.fr, e1, e2]; rfl
theorem c99_sz : Sz 7 (mkRat 99 100) := sz_mk _ _ _ (by omega) (by decide) (by omega)
theorem num_pos {x : Rat} : decide (0 < x.num) = decide (0 < x) := by
  rw [decide_eq_decide]
  exact ⟨fun y => by
    have a1 := Rat.num_nonneg (q := x)
    have : 0 ≤ x := a1.mp (by omega)
    have : x ≠ 0 := fun w => by rw [w] at y; exact absurd y (by decide)
    grind, fun y => by
    have a1 := Rat.num_nonneg.mpr (Rat.le_of_lt y)
    have := num_ne (b := x) (by grind)
    omega⟩
theorem side_pos {x y : Rat} : decide (0 < side x y) = decide (y < x) := by
  unfold side
  by_cases g : y < x
  · rw [if_pos g]; simp [g]
  · rw [if_neg g]
    split <;> simp [g]
theorem side_le {x y : Rat} : decide (side x y ≤ 0) = decide (x ≤ y) := by
  unfold side
  by_cases g : y < x
  · rw [if_pos g]; simp [Rat.not_le.mpr g]
  · rw [if_neg g]
    have : x ≤ y := Rat.not_lt.mp g
    split <;> simp [this]
/-- a limit -/
theorem w_limit {k : Nat} {E} {dd : DEn} {ys : List D} {y2 y3 y4 y8 x5 x9 x10 x12 : Option Sl} (h : Pl n S u a) (l0 : 0 < lim) (sl : Sz 140 lim) (n5 : NoOw x5) (n9 : NoOw x9) (n10 : NoOw x10) (n12 : NoOw x12)
    (hn : ∀ x9 x10 x12 : Option Sl, NoOw x9 → NoOw x10 → NoOw x12 → dd.nx [some (.own true ys), some (.dat (.int u)), y2, y3, y4, some (.dat (Lib.fr lim)), some (.dat (sheetD n S)), some (.dat (frT n a)), y8, x9, x10, none, x12]) :
    asnN (.name 5) (Lib.fr lim) [some (.own true ys), some (.dat (.int u)), y2, y3, y4, x5, some (.dat (sheetD n S)), some (.dat (frT n a)), y8, x9, x10, none, x12] fun ρ1 => wpSs ((gam P (k + 9))) [.asg (.name 9) (.call "_law_least_part" [.var 6, .var 1, .var 7, .var 5]), .asg (.name 10) (.call "least_bleed" [.var 6, .var 1, .var 7, .var 5]), .ite (.cmp .ne (.bi .repr [.lst [.var 10, .callK "least_bleed" ["sheet", "unit", "amounts", "limit"] [.var 6, .var 1, .var 7, .var 5]]]) (.bi .repr [.lst [.var 9, .var 9]])) [.ret (.lit (.bool false))] [], .ite (.notN (.var 10)) [.asg (.name 12) (.call "least_flow" [.call "bled" [.var 6, .var 1, .var 10], .var 7]), .ite (.or (.isN (.var 12)) (.cmp .gt (.call "_law_side" [.idx (.var 12) (.var 1), .var 5]) (.lit (.int 0)))) [.ret (.lit (.bool false))] [], .ite (.cmp .gt (.idx (.var 10) (.lit (.int 0))) (.lit (.int 0))) [.asg (.name 12) (.call "least_flow" [.call "bled" [.var 6, .var 1, .call "_law_times" [.var 10, .tup [.lit (.int 99), .lit (.int 100)]]], .var 7]), .ite (.and (.notN (.var 12)) (.cmp .le (.call "_law_side" [.idx (.var 12) (.var 1), .var 5]) (.lit (.int 0)))) [.ret (.lit (.bool false))] []] []] []] E dd ρ1 := by
  have s2 := two_sh h l0 sl
  have hS := h.net.sheet
  have hu := h.hu
  refine R.an_name (R.nio rfl n5.ok) ?_
  (repeat walk_at "w1")
  refine wl_least_part h l0 sl ?_
  (repeat walk_at "w1")
  refine w_least_bleed h l0 sl ?_
  (repeat walk_at "w1")
  refine w_least_bleed h l0 sl ?_
  (repeat walk_at "w1")
  refine R.repr_d (s2.repr (by omega) (by omega)) ?_
  (repeat walk_at "w1")
  refine R.repr_d (s2.repr (by omega) (by omega)) ?_
  (repeat walk_at "w1")
  refine R.repr_ne s2 (by omega) (by omega) ?_
  refine R.ifF ?_
  (repeat walk_at "w1")
  unfold lbD
  cases e : lb n S u a lim with
  | none =>
    dsimp only [isNone, Bool.not_true]
    refine R.ifF ?_
    (repeat walk_at "w1")
    exact hn _ _ _ .d .d n12
  | some t =>
    obtain ⟨t0, t1, ft, le, gt⟩ := lb_ok h l0 e
    have st := lb_sz h sl l0 e
    obtain ⟨f, sz, nn⟩ := bled_ok h t0 t1 (st.mono (by omega)) ft
    dsimp only
    rw [show isNone (Lib.fr t) = false from rfl]
    refine R.ifT ?_
    (repeat walk_at "w1")
    refine w_bled hS hu st (by omega) t0 t1 ?_
    (repeat walk_at "w1")
    refine w_bled_flow h t0 t1 (st.mono (by omega)) ?_
    rw [flow_yes ft]
    simp only [frT]
    (repeat walk_at "w1")
    refine R.ifF ?_
    (repeat walk_at "w1")
    refine R.idx_t (tab_at hu) ?_
    (repeat walk_at "w1")
    refine wl_side (sz u hu) sl (by omega) ?_
    (repeat walk_at "w1")
    rw [side_pos, decide_eq_false (Rat.not_lt.mpr (le _ f))]
    refine R.ifF ?_
    simp only [Lib.fr]
    (repeat walk_at "w1")
    rw [num_pos]
    refine R.iteD (fun tp => ?_) fun tp => ?_
    · have c0 : 0 < mkRat 99 100 := by decide +kernel
      have c1 : mkRat 99 100 < 1 := by decide +kernel
      have gt := gt tp
      have m1 := Rat.mul_lt_mul_of_pos_left c1 tp
      have m2 := Rat.mul_pos tp c0
      have st2 : Sz 397 (t * mkRat 99 100) := sz_mul st c99_sz
      rw [show PyData.tuple [.int t.num, .int (t.den : Int)] = Lib.fr t from rfl, show PyData.tuple [.int lim.num, .int (lim.den : Int)] = Lib.fr lim from rfl]
      (repeat walk_at "w1")
      rw [c99_fr]
      refine wl_times st c99_sz (by omega) ?_
      (repeat walk_at "w1")
      refine w_bled hS hu st2 (by omega) (Rat.le_of_lt m2) (by grind) ?_
      (repeat walk_at "w1")
      rw [show PyData.tuple (tab n fun j => PyData.tuple [.int (a j).num, .int ((a j).den : Int)]) = frT n a from rfl]
      refine w_bled_flow h (Rat.le_of_lt m2) (by grind) st2 ?_
      cases g2 : fine n (Lib.cutS S u (1 - t * mkRat 99 100)) a with
      | false =>
        rw [flow_no g2]
        (repeat walk_at "w1")
        exact hn _ _ _ .d .d .d
      | true =>
        obtain ⟨f2, sz2, nn2⟩ := bled_ok h (Rat.le_of_lt m2) (by grind) st2 g2
        have big := gt _ nn2 f2
        rw [flow_yes g2]
        simp only [frT]
        (repeat walk_at "w1")
        refine R.ifT ?_
        (repeat walk_at "w1")
        refine R.idx_t (tab_at hu) ?_
        (repeat walk_at "w1")
        refine wl_side (sz2 u hu) sl (by omega) ?_
        (repeat walk_at "w1")
        rw [side_le, decide_eq_false (Rat.not_le.mpr big)]
        refine R.ifF ?_
        (repeat walk_at "w1")
        exact hn _ _ _ .d .d .d
    · (repeat walk_at "w1")
      exact hn _ _ _ .d .d .d
end
end K88
--GEN /tmp/w/o/K88a.lean
namespace K88
open PySem DL L2 Lib
local macro_rules | `(tactic| walk_at "w1") => `(tactic| (first
  | (with_reducible refine R.lit ?_) | (with_reducible refine R.con ?_)
  | ((with_reducible refine' R.var ?g ?h); (case g => exact rfl))
  | ((with_reducible refine' R.varO ?g ?h); (case g => exact rfl))
  | (with_reducible refine R.op2 ?_) | (with_reducible refine R.cmp ?_) | (with_reducible refine R.idx ?_) | (with_reducible refine R.slc ?_) | (with_reducible refine R.oN ?_) | (with_reducible refine R.oS ?_)
  | (with_reducible refine R.tcmp ?_) | (with_reducible refine R.tnot ?_) | (with_reducible refine R.tand ?_) | (with_reducible refine R.tor ?_) | (with_reducible refine R.tcall ?_) | (with_reducible refine R.tbi ?_) | (with_reducible refine R.tisN ?_) | (with_reducible refine R.tnotN ?_) | (with_reducible refine R.tchain ?_) | (with_reducible refine R.tvar ?_) | (with_reducible refine R.tcallK ?_)
  | (with_reducible refine R.isN ?_) | (with_reducible refine R.notN ?_) | (with_reducible refine R.chain ?_) | (with_reducible refine R.neg ?_) | (with_reducible refine R.not ?_) | (with_reducible refine R.and ?_) | (with_reducible refine R.or ?_) | (with_reducible refine R.ife ?_)
  | (with_reducible refine R.tup ?_) | (with_reducible refine R.lst ?_) | (with_reducible refine R.call ?_) | (with_reducible refine R.callK ?_) | (with_reducible refine R.callIo ?_) | (with_reducible refine R.bi ?_) | (with_reducible refine R.comp ?_) | (with_reducible refine R.index ?_) | (with_reducible refine R.repL ?_) | (with_reducible refine R.listR ?_)
  | (with_reducible refine R.an ?_) | (with_reducible refine R.ac ?_) | (with_reducible refine R.en ?_) | (with_reducible refine R.ec ?_) | (with_reducible refine R.ed ?_) | (with_reducible refine R.eo ?_)
  | ((with_reducible refine' R.erd ?g ?h); (case g => exact rfl)) | ((with_reducible refine' R.ero ?g ?h); (case g => exact rfl))
  | ((with_reducible refine' R.w1 ?g ?h); (case g => exact rfl)) | ((with_reducible refine' R.w2 ?g ?g' ?h); (case g => exact rfl); (case g' => exact rfl)) | ((with_reducible refine' R.ws ?g ?h); (case g => exact rfl))
  | (with_reducible refine R.fval rfl ?_) | (with_reducible refine R.f_l ?_) | (with_reducible refine R.f_t ?_) | (with_reducible refine R.ival rfl ?_) | (with_reducible refine R.i_l ?_) | (with_reducible refine R.i_t ?_) | (with_reducible refine R.i_o ?_) | ((with_reducible refine' R.i_r ?g ?h); (case g => exact rfl))
  | (with_reducible refine R.irange ?_) | (with_reducible refine R.frange ?_) | (with_reducible refine R.ienum ?_) | (with_reducible refine R.fenum ?_) | (with_reducible refine R.izip ?_) | (with_reducible refine R.fzip ?_) | (with_reducible refine R.irev ?_) | (with_reducible refine R.frev ?_) | ((with_reducible refine' R.zip_at ?g ?g' ?h); (case g => exact rfl); (case g' => exact rfl)) | (with_reducible refine R.eq_i ?_) | (with_reducible refine R.ne_i ?_) | (with_reducible refine R.sretN ?_)
  | (with_reducible refine R.sn ?_) | (with_reducible refine R.sc ?_) | (with_reducible refine R.sasg ?_) | (with_reducible refine R.spar ?_) | (with_reducible refine R.sexpr ?_) | (with_reducible refine R.sapp ?_) | (with_reducible refine R.sext ?_) | (with_reducible refine R.sret ?_) | (with_reducible refine R.site ?_) | (with_reducible refine R.sfor ?_)
  | ((with_reducible refine R.nd_ ?n ?h); (case n => first | exact R.nio rfl rfl | exact R.nio rfl (DL.NoOw.ok (by assumption)))) | ((with_reducible refine R.no_ ?n ?h); (case n => first | exact R.nio rfl rfl | exact R.nio rfl (DL.NoOw.ok (by assumption)))) | ((with_reducible refine R.nr_ ?n ?h); (case n => first | exact R.nio rfl rfl | exact R.nio rfl (DL.NoOw.ok (by assumption))))
  | ((with_reducible refine' R.an_name ?n ?h); (case n => first | assumption | exact R.nio rfl rfl | exact R.nio rfl (DL.NoOw.ok (by assumption)))) | ((with_reducible refine' R.an_two ?n ?m ?h); (case n => first | assumption | exact R.nio rfl rfl | exact R.nio rfl (DL.NoOw.ok (by assumption))); (case m => first | assumption | exact R.nio rfl rfl | exact R.nio rfl (DL.NoOw.ok (by assumption)))) | ((with_reducible refine' R.an_three ?n ?m ?o ?h); (case n => first | assumption | exact R.nio rfl rfl | exact R.nio rfl (DL.NoOw.ok (by assumption))); (case m => first | assumption | exact R.nio rfl rfl | exact R.nio rfl (DL.NoOw.ok (by assumption))); (case o => first | assumption | exact R.nio rfl rfl | exact R.nio rfl (DL.NoOw.ok (by assumption)))) | (with_reducible refine R.tt rfl ?_) | (with_reducible refine R.tn ?_) | (with_reducible refine R.tc ?_) | (with_reducible refine R.subd ?_) | ((with_reducible refine' R.own_and ?g ?h); (case g => exact rfl)) | ((with_reducible refine' R.put_at ?g ?g' ?h); (case g => exact rfl); (case g' => exact rfl)) | ((with_reducible refine' R.io_ref ?g ?h); (case g => exact rfl)) | (with_reducible refine R.io_own ?_) | (with_reducible refine R.one_1 ?_) | (with_reducible refine R.setn ?_) | (with_reducible refine R.setd ?_) | (with_reducible refine R.seto ?_) | (with_reducible refine R.setr ?_)
  | ((with_reducible refine' R.find ?g ?h); (case g => exact rfl)) | ((with_reducible refine' R.fino ?g ?h); (case g => exact rfl)) | ((with_reducible refine' R.finr ?g ?g' ?h); (case g => exact rfl); (case g' => exact rfl)) | ((with_reducible refine' R.find' ?g ?g' ?h); (case g => exact rfl); (case g' => exact rfl))
  | (with_reducible refine R.ifT ?_) | (with_reducible refine R.ifF ?_)
  | ((with_reducible refine' R.pow_i ?g ?h); (case g => decide)) | ((with_reducible refine' R.mul_i ?g ?h); (case g => exact mulOk 60 60 (by omega) (by omega) (by decide))) | ((with_reducible refine' R.fdiv_i ?g ?h); (case g => exact divOk (by omega) (by omega))) | ((with_reducible refine' R.mod_i ?g ?h); (case g => omega))
  | (with_reducible refine R.add_i ?_) | (with_reducible refine R.sub_i ?_) | (with_reducible refine R.lt_i ?_) | (with_reducible refine R.le_i ?_) | (with_reducible refine R.gt_i ?_) | (with_reducible refine R.ge_i ?_)
  | ((with_reducible refine' R.idx_l ?g ?h); (case g => exact rfl)) | ((with_reducible refine' R.idx_t ?g ?h); (case g => exact rfl)) | (with_reducible refine R.slc_l ?_) | (with_reducible refine R.slc_t ?_)
  | (with_reducible refine R.len_l ?_) | (with_reducible refine R.len_t ?_) | (with_reducible refine R.tuple_l ?_) | (with_reducible refine R.tuple_t ?_) | (with_reducible refine R.list_l ?_) | (with_reducible refine R.list_t ?_) | (with_reducible refine R.abs_i ?_) | (with_reducible refine R.int_i ?_) | (with_reducible refine R.gcd_i ?_)
  | (with_reducible refine R.isint ?_) | (with_reducible refine R.isbool ?_) | (with_reducible refine R.istuple ?_) | (with_reducible refine R.islist ?_)
  | (with_reducible refine R.sum_is ?_) | (with_reducible refine R.all_bs ?_) | ((with_reducible refine R.any_bs ?_))); (try dsimp only [List.map, List.set, Int.reduceToNat, Bool.not_true, Bool.not_false, DL.restR, DL.gt, DL.wipeR]))
theorem rows_tab {n : Nat} {vs : List Rat} (h : vs.length = n) : vs.map Lib.fr = tab n fun j => Lib.fr (vs.getD j 0) := by
  subst h
  unfold tab
  apply List.ext_getElem
  · simp
  · intro j h1 h2
    simp only [List.length_map] at h1
    simp [List.getD_eq_getElem?_getD, h1]
theorem part_cases {x : D} (h : x ∈ [.tuple [.int 0, .int 1], .tuple [.int 1, .int 2], .tuple [.int 1, .int 3], .tuple [.int 9, .int 10]]) : ∃ p : Rat, x = Lib.fr p ∧ 0 ≤ p ∧ p ≤ 1 ∧ Sz 4 p ∧ Sz 4 (1 - p) := by
  have key : ∀ (n : Int) (d : Nat), (mkRat n d).num = n → (mkRat n d).den = d → 0 ≤ mkRat n d → mkRat n d ≤ 1 → Sz 4 (mkRat n d) → Sz 4 (1 - mkRat n d) → ∃ p : Rat, PyData.tuple [.int n, .int (d : Int)] = Lib.fr p ∧ 0 ≤ p ∧ p ≤ 1 ∧ Sz 4 p ∧ Sz 4 (1 - p) := fun n d e1 e2 a b c e =>
    ⟨mkRat n d, by simp only [Lib.fr, e1, e2], a, b, c, e⟩
  simp only [List.mem_cons, List.not_mem_nil, or_false] at h
  rcases h with rfl | rfl | rfl | rfl
  · exact key 0 1 (by decide +kernel) (by decide +kernel) (by decide +kernel) (by decide +kernel) ⟨by decide +kernel, by decide +kernel⟩ ⟨by decide +kernel, by decide +kernel⟩
  · exact key 1 2 (by decide +kernel) (by decide +kernel) (by decide +kernel) (by decide +kernel) ⟨by decide +kernel, by decide +kernel⟩ ⟨by decide +kernel, by decide +kernel⟩
  · exact key 1 3 (by decide +kernel) (by decide +kernel) (by decide +kernel) (by decide +kernel) ⟨by decide +kernel, by decide +kernel⟩ ⟨by decide +kernel, by decide +kernel⟩
  · exact key 9 10 (by decide +kernel) (by decide +kernel) (by decide +kernel) (by decide +kernel) ⟨by decide +kernel, by decide +kernel⟩ ⟨by decide +kernel, by decide +kernel⟩
def optT (n : Nat) (p : Bool × (Nat → Rat)) : D := if p.1 = true then frT n p.2 else .none
theorem w_right {k : Nat} {xs : List D} {Q E} (hx : Tap 0 xs) (q : ∀ ys, Q (.dat (.bool true)) [ys]) : gam P (k + 10) "_law_right" [.own true xs] Q E := by
  refine R.opn Nd.nd (Has.mem (d := d__law_right)) rfl ?_
  simp only [d__law_right, List.map, List.replicate, List.length_cons, List.length_nil, List.cons_append, List.nil_append, Nat.reduceAdd, Nat.reduceSub]
  (repeat walk_at "w1")
  refine w_net hx (by omega) fun ys n S hy hN => ?_
  have hS := hN.sheet
  have h1 := hN.one
  have h5 := hN.most
  have e : ∀ S : Nat → Nat → Rat, sheetD n S = .tuple (tab n fun i => frT n (S i)) := fun _ => rfl
  rw [e]
  (repeat walk_at "w1")
  rw [tab_len]
  refine w_dropT hy (by omega) (by omega) (by omega) fun ys u hy hu => ?_
  have hu : u < n := by omega
  (repeat walk_at "w1")
  rw [tab_len]
  refine R.rng1 (by omega) (by unfold LenOk; rw [sizeLine_eq]; omega) ?_
  refine for_rng (n := n) (σ := List D × List Rat × Option Sl) (fun s => [some (.own true s.1), some (.dat (.int u)), s.2.2, none, none, none, some (.dat (sheetD n S)), some (.own false (s.2.1.map Lib.fr)), none, none, none, none, none])
    (fun i s => Tap (40 + 5 * i) s.1 ∧ s.2.1.length = i ∧ (∀ q ∈ s.2.1, 0 ≤ q ∧ Sz 9 q) ∧ NoOw s.2.2) ?_ ?_ (ys, [], none) ⟨hy.mono (by omega), rfl, by simp, .n⟩
  · rintro i ⟨t, vs, x⟩ nx hi ⟨ht, hl', hv, hx'⟩ hn'
    simp only at ht hl' hv hx'
    have fin : ∀ (us : List D) (q : Rat), Tap (40 + 5 * (i + 1)) us → 0 ≤ q → Sz 9 q → nx [some (.own true us), some (.dat (.int u)), some (.dat (.int i)), none, none, none, some (.dat (sheetD n S)), some (.own false (vs.map Lib.fr ++ [Lib.fr q])), none, none, none, none, none] := fun us q hu h0 h9 => by
      have := hn' (us, vs ++ [q], some (.dat (.int i))) ⟨hu, by simp [hl'], fun p hp => by
        rcases List.mem_append.mp hp with z | z
        · exact hv p z
        · simp only [List.mem_singleton] at z; subst z; exact ⟨h0, h9⟩, .d⟩
      simpa using this
    refine R.an_name (R.nio rfl hx'.ok) ?_
    (repeat walk_at "w1")
    refine w_dropT ht (by omega) (by omega) (by omega) fun us r hu hr => ?_
    (repeat walk_at "w1")
    refine R.iteD (fun g => ?_) fun g => ?_
    · (repeat walk_at "w1")
      refine w_amount hu (by omega) fun us q hu q0 q9 => ?_
      (repeat walk_at "w1")
      refine R.app_at rfl (by rw [sizeLine_eq]; simp; omega) ?_
      (repeat walk_at "w1")
      exact fin us q (hu.mono (by omega)) (Rat.le_of_lt q0) q9
    · (repeat walk_at "w1")
      refine R.app_at rfl (by rw [sizeLine_eq]; simp; omega) ?_
      (repeat walk_at "w1")
      exact fin us 0 (hu.mono (by omega)) (by decide) (sz_zero.mono (by omega))
  rintro ⟨t, vs, x⟩ ⟨ht, hl', hv, hx'⟩
  simp only at ht hl' hv hx'
  have en : (n : Int).toNat = n := by omega
  have ev := rows_tab (n := n) (vs := vs) (by omega)
  have mem : ∀ i, i < n → vs.getD i 0 ∈ vs := fun i hi => by rw [List.getD_eq_getElem?_getD, List.getElem?_eq_getElem (by omega)]; exact List.getElem_mem _
  have ha : Am 9 n fun j => vs.getD j 0 := ⟨fun i hi => (hv _ (mem i hi)).1, fun i hi => (hv _ (mem i hi)).2⟩
  rw [ev]
  have hP : Pl n S u fun j => vs.getD j 0 := ⟨hN, hu, ha⟩
  rw [show (tab n fun j => Lib.fr (vs.getD j 0)) = tab n fun j => Lib.fr ((fun j => vs.getD j 0) j) from rfl]
  generalize (fun j => vs.getD j 0) = a at ha hP ⊢
  (repeat walk_at "w1")
  refine w_of ht (by omega) (.inl rfl) (by simp) (by simp) fun ys y hy hy' => ?_
  obtain ⟨p, rfl, p0, p1, ps, rs⟩ := part_cases hy'
  (repeat walk_at "w1")
  refine wl_cut_row hS hu ps (by omega) ?_
  (repeat walk_at "w1")
  rw [show PyData.tuple (tab n fun j => Lib.fr (a j)) = frT n a from rfl]
  have hT := sheet_cut (u := u) (s := 4) hN (r := 1 - p) (by grind) (by grind) rs (by omega)
  have vT : SolvB 139 n (Lib.cutS S u (1 - p)) a := cut_solv (s := 4) hN p0 p1 rs (by omega) ha
  refine wl_restN hT ha.nn vT (by omega) (by omega) ?_
  (repeat walk_at "w1")
  rw [show PyData.tuple [.int 1, .int 1] = Lib.fr 1 from rfl]
  refine wl_cut_row hS hu sz_one (by omega) ?_
  rw [one_less]
  (repeat walk_at "w1")
  refine wl_restN (c0_sheet hN) ha.nn (c0_solv hN ha) (by omega) (by omega) ?_
  (repeat walk_at "w1")
  refine ⟨noOwn1 rfl, ?_⟩
  simp only [wpo, wipeR]
  have o1 : flowD n (Lib.cutS S u (1 - p)) a = optT n (fine n (Lib.cutS S u (1 - p)) a, flowOf n (Lib.cutS S u (1 - p)) a) := rfl
  have o2 : flowD n (Lib.cutS S u 0) a = optT n (fine n (Lib.cutS S u 0) a, flowOf n (Lib.cutS S u 0) a) := rfl
  rw [o1, o2]
  refine comp_if (α := Bool × (Nat → Rat)) (optT n) (fun p => Lib.fr (p.2 u)) (fun p => p.1 && decide (0 < p.2 u)) rfl (fun _ => rfl) (by rfl) [(fine n (Lib.cutS S u (1 - p)) a, flowOf n (Lib.cutS S u (1 - p)) a), (fine n (Lib.cutS S u 0) a, flowOf n (Lib.cutS S u 0) a)] [] (fun w hw nx hn => ?_) (fun w hw hp nx hn => ?_) ?_
  · rcases w with ⟨b, X⟩
    cases b with
    | false =>
      (repeat walk_at "w1")
      exact hn
    | true =>
      simp only [optT, if_true, frT] at hn ⊢
      (repeat walk_at "w1")
      refine R.ifT ?_
      (repeat walk_at "w1")
      refine R.idx_t (tab_at hu) ?_
      simp only [Lib.fr] at hn ⊢
      (repeat walk_at "w1")
      rw [num_pos]
      simpa using hn
  · rcases w with ⟨b, X⟩
    cases b with
    | false => simp at hp
    | true =>
      simp only [optT, if_true, frT] at hn ⊢
      (repeat walk_at "w1")
      refine R.idx_t (tab_at hu) ?_
      (repeat walk_at "w1")
      exact hn
  have good : ∃ bs : List Rat, ([] ++ ([(fine n (Lib.cutS S u (1 - p)) a, flowOf n (Lib.cutS S u (1 - p)) a), (fine n (Lib.cutS S u 0) a, flowOf n (Lib.cutS S u 0) a)].filter fun p => p.1 && decide (0 < p.2 u)).map fun p => Lib.fr (p.2 u)) = bs.map Lib.fr ∧ bs.length ≤ 2 ∧ ∀ b ∈ bs, 0 < b ∧ Sz 140 b := by
    refine ⟨([(fine n (Lib.cutS S u (1 - p)) a, flowOf n (Lib.cutS S u (1 - p)) a), (fine n (Lib.cutS S u 0) a, flowOf n (Lib.cutS S u 0) a)].filter fun p => p.1 && decide (0 < p.2 u)).map fun p => p.2 u, by simp, ?_, fun b hb => ?_⟩
    · rw [List.length_map]
      exact List.length_filter_le _ _
    · obtain ⟨w, hw, rfl⟩ := List.mem_map.mp hb
      obtain ⟨hw, hp⟩ := List.mem_filter.mp hw
      rw [Bool.and_eq_true, decide_eq_true_iff] at hp
      refine ⟨hp.2, ?_⟩
      simp only [List.mem_cons, List.not_mem_nil, or_false] at hw
      rcases hw with rfl | rfl
      · exact ((flow_okN hT vT (by omega) hp.1).2 u hu).mono (by omega)
      · exact ((fst_ok hP hp.1).2.1 u hu).mono (by omega)
  obtain ⟨bs, eb, bl, bg⟩ := good
  rw [eb]
  (repeat walk_at "w1")
  refine w_amount hy (by omega) fun ys am hy am0 am9 => ?_
  (repeat walk_at "w1")
  have big2 : (n + 1) * (9 + 1) ≤ 6 * 10 := Nat.mul_le_mul (by omega) (by omega)
  refine wl_total (s := 9) (qs := (List.range n).map a) (.inl (by unfold frT; rw [frT_map])) (fun q hq => ?_) ?_ ?_
  · obtain ⟨i, hi, rfl⟩ := List.mem_map.mp hq
    exact ha.sz i (List.mem_range.mp hi)
  · simp only [List.length_map, List.length_range]; omega
  (repeat walk_at "w1")
  rw [sumR_tab]
  have sm0 : 0 ≤ Mx.sm n a := Mx.sm_nonneg ha.nn
  have ssm : Sz 52 (Mx.sm n a) := by
    have := sz_sumR (s := 9) (qs := (List.range n).map a) sz_zero (fun q hq => by
      obtain ⟨i, hi, rfl⟩ := List.mem_map.mp hq
      exact ha.sz i (List.mem_range.mp hi))
    rw [sumR_tab] at this
    have m : n * 10 ≤ 5 * 10 := Nat.mul_le_mul_right _ h5
    exact this.mono (by simp; omega)
  rw [show PyData.tuple [.int 1, .int 1] = Lib.fr 1 from rfl]
  refine wl_add (b := 1) ssm sz_one (by omega) ?_
  (repeat walk_at "w1")
  refine R.add_l (by unfold LenOk; rw [sizeLine_eq, List.length_map]; simp; omega) ?_
  have el : bs.map Lib.fr ++ [Lib.fr am, Lib.fr (Mx.sm n a + 1)] = (bs ++ [am, Mx.sm n a + 1]).map Lib.fr := by simp
  rw [el]
  (repeat walk_at "w1")
  refine for_l (α := Rat) (σ := Option Sl × Option Sl × Option Sl × Option Sl) Lib.fr (fun t => [some (.own true ys), some (.dat (.int u)), x, some (.own false [optT n (fine n (Lib.cutS S u (1 - p)) a, flowOf n (Lib.cutS S u (1 - p)) a), optT n (fine n (Lib.cutS S u 0) a, flowOf n (Lib.cutS S u 0) a)]), some (.own false (bs.map Lib.fr)), t.1, some (.dat (sheetD n S)), some (.dat (frT n a)), some (.dat (Lib.fr p)), t.2.1, t.2.2.1, none, t.2.2.2])
    (fun vs t => NoOw t.1 ∧ NoOw t.2.1 ∧ NoOw t.2.2.1 ∧ NoOw t.2.2.2 ∧ ∀ v ∈ vs, 0 < v ∧ Sz 140 v) ?_ ?_ (bs ++ [am, Mx.sm n a + 1]) (none, none, none, none) ⟨.n, .n, .n, .n, fun v hv => ?_⟩
  · rintro v vs ⟨x5, x9, x10, x12⟩ nx ⟨g5, g9, g10, g12, hv⟩ hn
    simp only at g5 g9 g10 g12 hv
    obtain ⟨v0, vz⟩ := hv v List.mem_cons_self
    exact w_limit hP v0 vz g5 g9 g10 g12 fun x9 x10 x12 h9 h10 h12 => hn (_, _, _, _) ⟨.d, h9, h10, h12, fun w hw => hv w (List.mem_cons_of_mem _ hw)⟩
  · rintro ⟨x5, x9, x10, x12⟩ ⟨g5, g9, g10, g12, hv⟩
    (repeat walk_at "w1")
    exact q _
  · rcases List.mem_append.mp hv with z | z
    · exact bg v z
    · simp only [List.mem_cons, List.not_mem_nil, or_false] at z
      rcases z with rfl | rfl
      · exact ⟨am0, am9.mono (by omega)⟩
      · exact ⟨by grind, (sz_add ssm sz_one).mono (by omega)⟩
instance i_law : Has P (d_lawN ((2 : Nat) : Int)) := ⟨h_law.mem⟩
theorem plain : IsScript (gam P 200 "law") 63 := law_ok (N := 2) (k := 198) (by omega) fun xs Q E hx q => w_right hx q
end K88
open PySem PySem.W PyProof.Rows
namespace K88
open PySem DL L2
theorem txt {K : PySem.W.Frag} {h : Heap} {mg : Str → Option Value} (X : K.In h) (G : h.Ns mainGlobals mg) {t_MOST_UNITS : Tok} {a_ONE : Addr} {t_ONE u_ONE : Tok} {d_ONE : Option Addr} {n_ONE : Nat} {s_ONE : Array (Option Value)} {a_ZERO : Addr} {t_ZERO u_ZERO : Tok} {d_ZERO : Option Addr} {n_ZERO : Nat} {s_ZERO : Array (Option Value)}
  (f_is_whole : Fact K "is_whole" (top 9))
  (f_is_between : Fact K "is_between" (top 10))
  (f_are_wholes : Fact K "are_wholes" (top 11))
  (f_divisor_of : Fact K "divisor_of" (top 12))
  (f_lowest : Fact K "lowest" (top 13))
  (f_is_ratio : Fact K "is_ratio" (top 17))
  (f_ratio : Fact K "ratio" (top 18))
  (f_plus : Fact K "plus" (top 19))
  (f_minus : Fact K "minus" (top 20))
  (f_times : Fact K "times" (top 21))
  (f_over : Fact K "over" (top 22))
  (f_total : Fact K "total" (top 23))
  (f_is_below : Fact K "is_below" (top 24))
  (f_is_share : Fact K "is_share" (top 26))
  (f_is_amount : Fact K "is_amount" (top 27))
  (f_solved : Fact K "solved" (top 29))
  (f_check_amounts : Fact K "check_amounts" (top 31))
  (f_is_unit : Fact K "is_unit" (top 34))
  (f_check_sheet : Fact K "check_sheet" (top 35))
  (f_check_unit : Fact K "check_unit" (top 36))
  (f_losses_by : Fact K "losses_by" (top 37))
  (f_reached_from : Fact K "reached_from" (top 38))
  (f_loses : Fact K "loses" (top 39))
  (f_kept_part : Fact K "kept_part" (top 40))
  (f_flow_by : Fact K "flow_by" (top 41))
  (f_least_flow : Fact K "least_flow" (top 42))
  (f_thinner : Fact K "thinner" (top 44))
  (f_bled : Fact K "bled" (top 45))
  (f_least_bleed : Fact K "least_bleed" (top 46))
  (f__law_tap : Fact K "_law_tap" (top 48))
  (f__law_drop : Fact K "_law_drop" (top 49))
  (f__law_of : Fact K "_law_of" (top 50))
  (f__law_gcd : Fact K "_law_gcd" (top 51))
  (f__law_thin : Fact K "_law_thin" (top 52))
  (f__law_frac : Fact K "_law_frac" (top 53))
  (f__law_add : Fact K "_law_add" (top 54))
  (f__law_less : Fact K "_law_less" (top 55))
  (f__law_times : Fact K "_law_times" (top 56))
  (f__law_over : Fact K "_law_over" (top 57))
  (f__law_side : Fact K "_law_side" (top 58))
  (f__law_total : Fact K "_law_total" (top 59))
  (f__law_amount : Fact K "_law_amount" (top 60))
  (f__law_unit : Fact K "_law_unit" (top 61))
  (f__law_net : Fact K "_law_net" (top 62))
  (f__law_to : Fact K "_law_to" (top 63))
  (f__law_losses : Fact K "_law_losses" (top 64))
  (f__law_ways_out : Fact K "_law_ways_out" (top 65))
  (f__law_solved : Fact K "_law_solved" (top 66))
  (f__law_rest : Fact K "_law_rest" (top 67))
  (f__law_cut_row : Fact K "_law_cut_row" (top 68))
  (f__law_least_part : Fact K "_law_least_part" (top 69))
  (f__law_right : Fact K "_law_right" (top 70))
  (f_law : Fact K "law" (top 71))
  (k_MOST_UNITS : PySem.W.nsIn K mainGlobals (Str.ofString "MOST_UNITS") = some (some (.int 5 t_MOST_UNITS)))
  (k_ONE : PySem.W.nsIn K mainGlobals (Str.ofString "ONE") = some (some (.ref a_ONE)))
  (l_ONE : K.lookup a_ONE = some ⟨.type "tuple", d_ONE, .seq #[.int 1 t_ONE, .int 1 u_ONE] n_ONE, s_ONE⟩)
  (k_ZERO : PySem.W.nsIn K mainGlobals (Str.ofString "ZERO") = some (some (.ref a_ZERO)))
  (l_ZERO : K.lookup a_ZERO = some ⟨.type "tuple", d_ZERO, .seq #[.int 0 t_ZERO, .int 1 u_ZERO] n_ZERO, s_ZERO⟩)
  (z_abs : PySem.W.nsIn K mainGlobals (Str.ofString "abs") = some none)
  (z_all : PySem.W.nsIn K mainGlobals (Str.ofString "all") = some none)
  (z_any : PySem.W.nsIn K mainGlobals (Str.ofString "any") = some none)
  (z_bool : PySem.W.nsIn K mainGlobals (Str.ofString "bool") = some none)
  (z_divmod : PySem.W.nsIn K mainGlobals (Str.ofString "divmod") = some none)
  (z_enumerate : PySem.W.nsIn K mainGlobals (Str.ofString "enumerate") = some none)
  (z_int : PySem.W.nsIn K mainGlobals (Str.ofString "int") = some none)
  (z_isinstance : PySem.W.nsIn K mainGlobals (Str.ofString "isinstance") = some none)
  (z_len : PySem.W.nsIn K mainGlobals (Str.ofString "len") = some none)
  (z_list : PySem.W.nsIn K mainGlobals (Str.ofString "list") = some none)
  (z_math_gcd : PySem.W.nsIn K mainGlobals (Str.ofString "math.gcd") = some none)
  (z_range : PySem.W.nsIn K mainGlobals (Str.ofString "range") = some none)
  (z_repr : PySem.W.nsIn K mainGlobals (Str.ofString "repr") = some none)
  (z_sorted : PySem.W.nsIn K mainGlobals (Str.ofString "sorted") = some none)
  (z_sum : PySem.W.nsIn K mainGlobals (Str.ofString "sum") = some none)
  (z_tuple : PySem.W.nsIn K mainGlobals (Str.ofString "tuple") = some none)
  (z_zip : PySem.W.nsIn K mainGlobals (Str.ofString "zip") = some none)
  (g_gcd : PySem.W.nsIn K mainGlobals (Str.ofString "gcd") = some (some (.builtin "math.gcd")))
  : Txt P kn K mg := by
  refine ⟨by decide +kernel, ?_, ?_, ?_, ?_⟩
  · simp only [P, List.forall_mem_cons]
    exact ⟨⟨_, f_is_whole, b_is_whole, c_is_whole⟩, ⟨_, f_is_between, b_is_between, c_is_between⟩, ⟨_, f_are_wholes, b_are_wholes, c_are_wholes⟩, ⟨_, f_divisor_of, b_divisor_of, c_divisor_of⟩, ⟨_, f_lowest, b_lowest, c_lowest⟩, ⟨_, f_is_ratio, b_is_ratio, c_is_ratio⟩, ⟨_, f_ratio, b_ratio, c_ratio⟩, ⟨_, f_plus, b_plus, c_plus⟩, ⟨_, f_minus, b_minus, c_minus⟩, ⟨_, f_times, b_times, c_times⟩, ⟨_, f_over, b_over, c_over⟩, ⟨_, f_total, b_total, c_total⟩, ⟨_, f_is_below, b_is_below, c_is_below⟩, ⟨_, f_is_share, b_is_share, c_is_share⟩, ⟨_, f_is_amount, b_is_amount, c_is_amount⟩, ⟨_, f_solved, b_solved, c_solved⟩, ⟨_, f_check_amounts, b_check_amounts, c_check_amounts⟩, ⟨_, f_is_unit, b_is_unit, c_is_unit⟩, ⟨_, f_check_sheet, b_check_sheet, c_check_sheet⟩, ⟨_, f_check_unit, b_check_unit, c_check_unit⟩, ⟨_, f_losses_by, b_losses_by, c_losses_by⟩, ⟨_, f_reached_from, b_reached_from, c_reached_from⟩, ⟨_, f_loses, b_loses, c_loses⟩, ⟨_, f_kept_part, b_kept_part, c_kept_part⟩, ⟨_, f_flow_by, b_flow_by, c_flow_by⟩, ⟨_, f_least_flow, b_least_flow, c_least_flow⟩, ⟨_, f_thinner, b_thinner, c_thinner⟩, ⟨_, f_bled, b_bled, c_bled⟩, ⟨_, f_least_bleed, b_least_bleed, c_least_bleed⟩, ⟨_, f__law_tap, b__law_tap, c__law_tap⟩, ⟨_, f__law_drop, b__law_drop, c__law_drop⟩, ⟨_, f__law_of, b__law_of, c__law_of⟩, ⟨_, f__law_gcd, b__law_gcd, c__law_gcd⟩, ⟨_, f__law_thin, b__law_thin, c__law_thin⟩, ⟨_, f__law_frac, b__law_frac, c__law_frac⟩, ⟨_, f__law_add, b__law_add, c__law_add⟩, ⟨_, f__law_less, b__law_less, c__law_less⟩, ⟨_, f__law_times, b__law_times, c__law_times⟩, ⟨_, f__law_over, b__law_over, c__law_over⟩, ⟨_, f__law_side, b__law_side, c__law_side⟩, ⟨_, f__law_total, b__law_total, c__law_total⟩, ⟨_, f__law_amount, b__law_amount, c__law_amount⟩, ⟨_, f__law_unit, b__law_unit, c__law_unit⟩, ⟨_, f__law_net, b__law_net, c__law_net⟩, ⟨_, f__law_to, b__law_to, c__law_to⟩, ⟨_, f__law_losses, b__law_losses, c__law_losses⟩, ⟨_, f__law_ways_out, b__law_ways_out, c__law_ways_out⟩, ⟨_, f__law_solved, b__law_solved, c__law_solved⟩, ⟨_, f__law_rest, b__law_rest, c__law_rest⟩, ⟨_, f__law_cut_row, b__law_cut_row, c__law_cut_row⟩, ⟨_, f__law_least_part, b__law_least_part, c__law_least_part⟩, ⟨_, f__law_right, b__law_right, c__law_right⟩, ⟨_, f_law, b_law, c_law⟩, fun _ h => absurd h (by simp)⟩
  · exact ConOk.cons (PySem.W.mg_of X G k_MOST_UNITS) con_int (ConOk.cons (PySem.W.mg_of X G k_ONE) (con_tup2 l_ONE) (ConOk.cons (PySem.W.mg_of X G k_ZERO) (con_tup2 l_ZERO) (ConOk.nil)))
  · exact BltOk.cons (PySem.W.mg_none_of X G z_abs) (BltOk.cons (PySem.W.mg_none_of X G z_all) (BltOk.cons (PySem.W.mg_none_of X G z_any) (BltOk.cons (PySem.W.mg_none_of X G z_bool) (BltOk.cons (PySem.W.mg_none_of X G z_divmod) (BltOk.cons (PySem.W.mg_none_of X G z_enumerate) (BltOk.cons (PySem.W.mg_none_of X G z_int) (BltOk.cons (PySem.W.mg_none_of X G z_isinstance) (BltOk.cons (PySem.W.mg_none_of X G z_len) (BltOk.cons (PySem.W.mg_none_of X G z_list) (BltOk.cons (PySem.W.mg_none_of X G z_math_gcd) (BltOk.cons (PySem.W.mg_none_of X G z_range) (BltOk.cons (PySem.W.mg_none_of X G z_repr) (BltOk.cons (PySem.W.mg_none_of X G z_sorted) (BltOk.cons (PySem.W.mg_none_of X G z_sum) (BltOk.cons (PySem.W.mg_none_of X G z_tuple) (BltOk.cons (PySem.W.mg_none_of X G z_zip) (BltOk.nil)))))))))))))))))
  · intro hx; exact PySem.W.mg_of X G g_gcd
theorem fin {l : PySem.W.OpenLaw} {w : World} {K : PySem.W.Frag} {h : Heap} {mg : Str → Option Value} {fa : Addr} (X : K.In h) (G : h.Ns mainGlobals mg) (hfa : mg "law" = some (.ref fa)) (t : Txt P kn K mg) :
    ∃ fd : FuncData, (∀ (s : Shared) (v : Value), BindsTo s fd ⟨[v], []⟩ [("script", v)]) ∧ ∀ base : Heap, K.In base → base.Ns mainGlobals mg → FnG l.prog w K mg base C8.CX0 200 fa fd ["script"] (hs K (fun _ => none) 1 (gam P 200 "law")) :=
  txt_law (d := d_law) X G t Lib.Has.mem rfl rfl hfa
theorem walk {l : PySem.W.OpenLaw} {q : Program} {loose : List Str} {XP : (Str → Option Value) → Heap → Prop} {YP : World → Heap → Prop} {d : DefRec} {K : Params → PySem.W.Frag} (hn : l.most = some 63) (hdf : d.params.defaults = [])
    (hY : ∀ (w : World) (h : Heap), YP w h → (K w.params).In h)
    (F : ∀ (w : World) (mg : Str → Option Value) (fa : Addr) (h : Heap), (K w.params).In h → h.Ns mainGlobals mg → mg d.name = some (.ref fa) →
      ∃ fd : FuncData, (∀ (s : Shared) (v : Value), BindsTo s fd ⟨[v], []⟩ [("script", v)]) ∧ ∀ base : Heap, (K w.params).In base → base.Ns mainGlobals mg → FnG l.prog w (K w.params) mg base C8.CX0 200 fa fd ["script"] (hs (K w.params) (fun _ => none) 1 (gam P 200 "law"))) :
    PySem.W.WalkO q loose XP YP l.row.toRowW d [] (fun f vs => PySem.call f vs) :=
  DL.walk_of (n := 63) (k := 200) (x := "script") (CX := fun _ => C8.CX0) (xt := fun _ _ => none) hn (by decide) hdf ⟨rfl, by decide, by decide⟩ hY F plain fun _ _ _ _ _ z => z
end K88
open PySem PySem.W PyProof.Rows
set_option maxRecDepth 100000 in
set_option maxHeartbeats 0 in
theorem PySem.Challenge.cw_partedcolumns_k88_whole_bleeds_holds : PySem.Challenge.rw_partedcolumns_k88_whole_bleeds.Holds := by
  w_on; o_law; k_head; (case hw => w_witness2)
  k_fill
  refine K88.walk (l := PySem.Challenge.rw_partedcolumns_k88_whole_bleeds) rfl rfl (fun w h Y => PySem.W.kIn_of Y) ?F
  case F =>
    intro w mg fa h KX G hmg
    refine K88.fin KX G hmg ?_
    refine' K88.txt KX G ?f0 ?f1 ?f2 ?f3 ?f4 ?f5 ?f6 ?f7 ?f8 ?f9 ?f10 ?f11 ?f12 ?f13 ?f14 ?f15 ?f16 ?f17 ?f18 ?f19 ?f20 ?f21 ?f22 ?f23 ?f24 ?f25 ?f26 ?f27 ?f28 ?f29 ?f30 ?f31 ?f32 ?f33 ?f34 ?f35 ?f36 ?f37 ?f38 ?f39 ?f40 ?f41 ?f42 ?f43 ?f44 ?f45 ?f46 ?f47 ?f48 ?f49 ?f50 ?f51 ?f52 ?k_MOST_UNITS ?k_ONE ?l_ONE ?k_ZERO ?l_ZERO ?z0 ?z1 ?z2 ?z3 ?z4 ?z5 ?z6 ?z7 ?z8 ?z9 ?z10 ?z11 ?z12 ?z13 ?z14 ?z15 ?z16 ?gg
    (case f0 => refine' DL.Fact.of ?a ?l ?c ?k; (case a => k_is); (case l => k_is); (case c => k_is); (case k => k_is))
    (case f1 => refine' DL.Fact.of ?a ?l ?c ?k; (case a => k_is); (case l => k_is); (case c => k_is); (case k => k_is))
    (case f2 => refine' DL.Fact.of ?a ?l ?c ?k; (case a => k_is); (case l => k_is); (case c => k_is); (case k => k_is))
    (case f3 => refine' DL.Fact.of ?a ?l ?c ?k; (case a => k_is); (case l => k_is); (case c => k_is); (case k => k_is))
    (case f4 => refine' DL.Fact.of ?a ?l ?c ?k; (case a => k_is); (case l => k_is); (case c => k_is); (case k => k_is))
    (case f5 => refine' DL.Fact.of ?a ?l ?c ?k; (case a => k_is); (case l => k_is); (case c => k_is); (case k => k_is))
    (case f6 => refine' DL.Fact.of ?a ?l ?c ?k; (case a => k_is); (case l => k_is); (case c => k_is); (case k => k_is))
    (case f7 => refine' DL.Fact.of ?a ?l ?c ?k; (case a => k_is); (case l => k_is); (case c => k_is); (case k => k_is))
    (case f8 => refine' DL.Fact.of ?a ?l ?c ?k; (case a => k_is); (case l => k_is); (case c => k_is); (case k => k_is))
    (case f9 => refine' DL.Fact.of ?a ?l ?c ?k; (case a => k_is); (case l => k_is); (case c => k_is); (case k => k_is))
    (case f10 => refine' DL.Fact.of ?a ?l ?c ?k; (case a => k_is); (case l => k_is); (case c => k_is); (case k => k_is))
    (case f11 => refine' DL.Fact.of ?a ?l ?c ?k; (case a => k_is); (case l => k_is); (case c => k_is); (case k => k_is))
    (case f12 => refine' DL.Fact.of ?a ?l ?c ?k; (case a => k_is); (case l => k_is); (case c => k_is); (case k => k_is))
    (case f13 => refine' DL.Fact.of ?a ?l ?c ?k; (case a => k_is); (case l => k_is); (case c => k_is); (case k => k_is))
    (case f14 => refine' DL.Fact.of ?a ?l ?c ?k; (case a => k_is); (case l => k_is); (case c => k_is); (case k => k_is))
    (case f15 => refine' DL.Fact.of ?a ?l ?c ?k; (case a => k_is); (case l => k_is); (case c => k_is); (case k => k_is))
    (case f16 => refine' DL.Fact.of ?a ?l ?c ?k; (case a => k_is); (case l => k_is); (case c => k_is); (case k => k_is))
    (case f17 => refine' DL.Fact.of ?a ?l ?c ?k; (case a => k_is); (case l => k_is); (case c => k_is); (case k => k_is))
    (case f18 => refine' DL.Fact.of ?a ?l ?c ?k; (case a => k_is); (case l => k_is); (case c => k_is); (case k => k_is))
    (case f19 => refine' DL.Fact.of ?a ?l ?c ?k; (case a => k_is); (case l => k_is); (case c => k_is); (case k => k_is))
    (case f20 => refine' DL.Fact.of ?a ?l ?c ?k; (case a => k_is); (case l => k_is); (case c => k_is); (case k => k_is))
    (case f21 => refine' DL.Fact.of ?a ?l ?c ?k; (case a => k_is); (case l => k_is); (case c => k_is); (case k => k_is))
    (case f22 => refine' DL.Fact.of ?a ?l ?c ?k; (case a => k_is); (case l => k_is); (case c => k_is); (case k => k_is))
    (case f23 => refine' DL.Fact.of ?a ?l ?c ?k; (case a => k_is); (case l => k_is); (case c => k_is); (case k => k_is))
    (case f24 => refine' DL.Fact.of ?a ?l ?c ?k; (case a => k_is); (case l => k_is); (case c => k_is); (case k => k_is))
    (case f25 => refine' DL.Fact.of ?a ?l ?c ?k; (case a => k_is); (case l => k_is); (case c => k_is); (case k => k_is))
    (case f26 => refine' DL.Fact.of ?a ?l ?c ?k; (case a => k_is); (case l => k_is); (case c => k_is); (case k => k_is))
    (case f27 => refine' DL.Fact.of ?a ?l ?c ?k; (case a => k_is); (case l => k_is); (case c => k_is); (case k => k_is))
    (case f28 => refine' DL.Fact.of ?a ?l ?c ?k; (case a => k_is); (case l => k_is); (case c => k_is); (case k => k_is))
    (case f29 => refine' DL.Fact.of ?a ?l ?c ?k; (case a => k_is); (case l => k_is); (case c => k_is); (case k => k_is))
    (case f30 => refine' DL.Fact.of ?a ?l ?c ?k; (case a => k_is); (case l => k_is); (case c => k_is); (case k => k_is))
    (case f31 => refine' DL.Fact.of ?a ?l ?c ?k; (case a => k_is); (case l => k_is); (case c => k_is); (case k => k_is))
    (case f32 => refine' DL.Fact.of ?a ?l ?c ?k; (case a => k_is); (case l => k_is); (case c => k_is); (case k => k_is))
    (case f33 => refine' DL.Fact.of ?a ?l ?c ?k; (case a => k_is); (case l => k_is); (case c => k_is); (case k => k_is))
    (case f34 => refine' DL.Fact.of ?a ?l ?c ?k; (case a => k_is); (case l => k_is); (case c => k_is); (case k => k_is))
    (case f35 => refine' DL.Fact.of ?a ?l ?c ?k; (case a => k_is); (case l => k_is); (case c => k_is); (case k => k_is))
    (case f36 => refine' DL.Fact.of ?a ?l ?c ?k; (case a => k_is); (case l => k_is); (case c => k_is); (case k => k_is))
    (case f37 => refine' DL.Fact.of ?a ?l ?c ?k; (case a => k_is); (case l => k_is); (case c => k_is); (case k => k_is))
    (case f38 => refine' DL.Fact.of ?a ?l ?c ?k; (case a => k_is); (case l => k_is); (case c => k_is); (case k => k_is))
    (case f39 => refine' DL.Fact.of ?a ?l ?c ?k; (case a => k_is); (case l => k_is); (case c => k_is); (case k => k_is))
    (case f40 => refine' DL.Fact.of ?a ?l ?c ?k; (case a => k_is); (case l => k_is); (case c => k_is); (case k => k_is))
    (case f41 => refine' DL.Fact.of ?a ?l ?c ?k; (case a => k_is); (case l => k_is); (case c => k_is); (case k => k_is))
    (case f42 => refine' DL.Fact.of ?a ?l ?c ?k; (case a => k_is); (case l => k_is); (case c => k_is); (case k => k_is))
    (case f43 => refine' DL.Fact.of ?a ?l ?c ?k; (case a => k_is); (case l => k_is); (case c => k_is); (case k => k_is))
    (case f44 => refine' DL.Fact.of ?a ?l ?c ?k; (case a => k_is); (case l => k_is); (case c => k_is); (case k => k_is))
    (case f45 => refine' DL.Fact.of ?a ?l ?c ?k; (case a => k_is); (case l => k_is); (case c => k_is); (case k => k_is))
    (case f46 => refine' DL.Fact.of ?a ?l ?c ?k; (case a => k_is); (case l => k_is); (case c => k_is); (case k => k_is))
    (case f47 => refine' DL.Fact.of ?a ?l ?c ?k; (case a => k_is); (case l => k_is); (case c => k_is); (case k => k_is))
    (case f48 => refine' DL.Fact.of ?a ?l ?c ?k; (case a => k_is); (case l => k_is); (case c => k_is); (case k => k_is))
    (case f49 => refine' DL.Fact.of ?a ?l ?c ?k; (case a => k_is); (case l => k_is); (case c => k_is); (case k => k_is))
    (case f50 => refine' DL.Fact.of ?a ?l ?c ?k; (case a => k_is); (case l => k_is); (case c => k_is); (case k => k_is))
    (case f51 => refine' DL.Fact.of ?a ?l ?c ?k; (case a => k_is); (case l => k_is); (case c => k_is); (case k => k_is))
    (case f52 => refine' DL.Fact.of ?a ?l ?c ?k; (case a => k_is); (case l => k_is); (case c => k_is); (case k => k_is))
    (case k_MOST_UNITS => k_is)
    (case k_ONE => k_is)
    (case l_ONE => k_is)
    (case k_ZERO => k_is)
    (case l_ZERO => k_is)
    (case z0 => k_is)
    (case z1 => k_is)
    (case z2 => k_is)
    (case z3 => k_is)
    (case z4 => k_is)
    (case z5 => k_is)
    (case z6 => k_is)
    (case z7 => k_is)
    (case z8 => k_is)
    (case z9 => k_is)
    (case z10 => k_is)
    (case z11 => k_is)
    (case z12 => k_is)
    (case z13 => k_is)
    (case z14 => k_is)
    (case z15 => k_is)
    (case z16 => k_is)
    (case gg => k_is)
