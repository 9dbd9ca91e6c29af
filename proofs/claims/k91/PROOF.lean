import PyProof.Rows.All
import Wide.All
import OpenK.AllK
import Wide.FinOn
import HandS.ForMost
import HandS.Wide
import HandS.Gcd
import HandS.TupSets
import HandS.TupAny
import HandS.TupMul
import HandS.Deep
import HandS.IsInst
import HandS.WideBits
import PyProof.ReprRoads
import HandS.Zip
import HandS.Rev
import HandS.Walk
import KE.GoesMore
import KE.GoesEnum
import HandS.More
import HandS.Style
import HandS.Codes
import HandS.RevRange
import KE.GoesZip
import HandS.Conv
import KE.KDictZip
import HandS.ListItems
import PyProof.FitsInt
import PySem.Challenge.RW_partedcolumns_k91_whole_what_samples_let
set_option Elab.async false
set_option linter.all false
set_option maxRecDepth 100000
set_option maxHeartbeats 8000000
/-! DL1: data over the abstract heap: values as PyData, slots with owned lists, steps. -/
namespace DL
open PySem PySem.Spec PyProof.Rows L2
abbrev D := PyData
abbrev St := L2.St
/-- what may be read as u: tracked and not among the bad addresses -/
def SqLb (K : PySem.W.Frag) (H : Hp) (bad : Addr → Prop) (a : Addr) (xs : List V) : Prop := (Rd H a (.lst xs) ∧ ¬ bad a) ∨
    ∃ (o : Obj) (its : Array Value) (n : Nat), K.lookup a = some o ∧ o.cls = .type "list" ∧ o.dict = none ∧ o.data = .seq its n ∧ its.size ≤ sizeLine ∧ Vals xs its.toList
def SqTb (K : PySem.W.Frag) (H : Hp) (bad : Addr → Prop) (a : Addr) (xs : List V) : Prop :=
  (Rd H a (.tup xs) ∧ ¬ bad a) ∨
    ∃ (o : Obj) (its : Array Value) (n : Nat), K.lookup a = some o ∧ o.cls = .type "tuple" ∧ o.data = .seq its n ∧ its.size ≤ sizeLine ∧ Vals xs its.toList
theorem SqLb.sq {K : PySem.W.Frag} {H : Hp} {bad : Addr → Prop} {a : Addr} {xs : List V} (h : SqLb K H bad a xs) : SqL K H a xs := h.imp And.left id
theorem SqTb.sq {K : PySem.W.Frag} {H : Hp} {bad : Addr → Prop} {a : Addr} {xs : List V} (h : SqTb K H bad a xs) : SqT K H a xs := h.imp And.left id
mutual
/-- the value v is the datum d; no bad address is in it -/
inductive DV (K : PySem.W.Frag) (H : Hp) (bad : Addr → Prop) : V → D → Prop
  | non : DV K H bad .non .none
  | bl (b : Bool) : DV K H bad (.bl b) (.bool b)
  | int (i : Int) : DV K H bad (.int i) (.int i)
  | str (x : Str) : DV K H bad (.str x) (.str x)
  | lst {a : Addr} {xs : List V} {ds : List D} : SqLb K H bad a xs → DVs K H bad xs ds → DV K H bad (.ref a) (.list ds)
  | tup {a : Addr} {xs : List V} {ds : List D} : SqTb K H bad a xs → DVs K H bad xs ds → DV K H bad (.ref a) (.tuple ds)
inductive DVs (K : PySem.W.Frag) (H : Hp) (bad : Addr → Prop) : List V → List D → Prop
  | nil : DVs K H bad [] []
  | cons {v : V} {vs : List V} {d : D} {ds : List D} : DV K H bad v d → DVs K H bad vs ds → DVs K H bad (v :: vs) (d :: ds)
end
section
variable {K : PySem.W.Frag} {H H' : Hp} {bad bad' : Addr → Prop}
theorem SqLb.mono {a : Addr} {xs : List V} (h : SqLb K H bad a xs) (k : ∀ a o, H a = some o → ¬ bad a → H' a = some o ∧ ¬ bad' a) : SqLb K H' bad' a xs := by
  rcases h with ⟨h | ⟨o, h⟩, n⟩ | h
  · exact .inl ⟨.inl (k _ _ h n).1, (k _ _ h n).2⟩
  · exact .inl ⟨.inr ⟨o, (k _ _ h n).1⟩, (k _ _ h n).2⟩
  · exact .inr h
theorem SqTb.mono {a : Addr} {xs : List V} (h : SqTb K H bad a xs) (k : ∀ a o, H a = some o → ¬ bad a → H' a = some o ∧ ¬ bad' a) : SqTb K H' bad' a xs := by
  rcases h with ⟨h | ⟨o, h⟩, n⟩ | h
  · exact .inl ⟨.inl (k _ _ h n).1, (k _ _ h n).2⟩
  · exact .inl ⟨.inr ⟨o, (k _ _ h n).1⟩, (k _ _ h n).2⟩
  · exact .inr h
mutual
theorem DV.mono (k : ∀ a o, H a = some o → ¬ bad a → H' a = some o ∧ ¬ bad' a) : ∀ (d : D) (v : V), DV K H bad v d → DV K H' bad' v d
  | .none, _, h => by cases h; exact .non
  | .bool _, _, h => by cases h; exact .bl _
  | .int _, _, h => by cases h; exact .int _
  | .str _, _, h => by cases h; exact .str _
  | .list ds, _, h => by cases h with | lst s r => exact .lst (s.mono k) (DVs.mono k ds _ r)
  | .tuple ds, _, h => by cases h with | tup s r => exact .tup (s.mono k) (DVs.mono k ds _ r)
  | .dict _, _, h => by cases h
theorem DVs.mono (k : ∀ a o, H a = some o → ¬ bad a → H' a = some o ∧ ¬ bad' a) : ∀ (ds : List D) (vs : List V), DVs K H bad vs ds → DVs K H' bad' vs ds
  | [], _, h => by cases h; exact .nil
  | d :: ds, _, h => by cases h with | cons a r => exact .cons (DV.mono k d _ a) (DVs.mono k ds _ r)
end
mutual
theorem DV.dp : ∀ (d : D) (v : V), DV K H bad v d → Dp K H v d
  | .none, _, h => by cases h; exact .non
  | .bool _, _, h => by cases h; exact .bl _
  | .int _, _, h => by cases h; exact .int _
  | .str _, _, h => by cases h; exact .str _
  | .list ds, _, h => by cases h with | lst s r => exact .lst s.sq (DVs.dp ds _ r)
  | .tuple ds, _, h => by cases h with | tup s r => exact .tup s.sq (DVs.dp ds _ r)
  | .dict _, _, h => by cases h
theorem DVs.dp : ∀ (ds : List D) (vs : List V), DVs K H bad vs ds → DpAll K H vs ds
  | [], _, h => by cases h; exact .nil
  | d :: ds, _, h => by cases h with | cons a r => exact .cons (DV.dp d _ a) (DVs.dp ds _ r)
end
theorem DVs.length : ∀ {vs : List V} {ds : List D}, DVs K H bad vs ds → vs.length = ds.length
  | _, [], h => by cases h; rfl
  | _, d :: ds, h => by cases h with | cons a r => simp [DVs.length r]
theorem DVs.get : ∀ {ds : List D} {vs : List V} {i : Nat} {d : D}, DVs K H bad vs ds → ds[i]? = some d → ∃ v, vs[i]? = some v ∧ DV K H bad v d
  | [], _, _, _, h, e => by simp at e
  | d :: ds, _, 0, _, h, e => by cases h with | cons a r => simp at e; subst e; exact ⟨_, rfl, a⟩
  | d :: ds, _, i + 1, _, h, e => by
    cases h with
    | cons a r => obtain ⟨v, h1, h2⟩ := DVs.get (i := i) r (by simpa using e); exact ⟨v, by simpa using h1, h2⟩
theorem DVs.get' : ∀ {ds : List D} {vs : List V} {i : Nat} {v : V}, DVs K H bad vs ds → vs[i]? = some v → ∃ d, ds[i]? = some d ∧ DV K H bad v d
  | [], _, _, _, h, e => by cases h; simp at e
  | d :: ds, _, 0, _, h, e => by cases h with | cons a r => simp at e; subst e; exact ⟨_, rfl, a⟩
  | d :: ds, _, i + 1, _, h, e => by
    cases h with
    | cons a r => obtain ⟨v, h1, h2⟩ := DVs.get' (i := i) r (by simpa using e); exact ⟨v, by simpa using h1, h2⟩
theorem DVs.append : ∀ {ds es : List D} {vs ws : List V}, DVs K H bad vs ds → DVs K H bad ws es → DVs K H bad (vs ++ ws) (ds ++ es)
  | [], _, _, _, h, g => by cases h; exact g
  | d :: ds, _, _, _, h, g => by cases h with | cons a r => exact .cons a (DVs.append r g)
theorem DVs.set {v : V} {d : D} (q : DV K H bad v d) : ∀ {ds : List D} {vs : List V} (i : Nat), DVs K H bad vs ds → DVs K H bad (vs.set i v) (ds.set i d)
  | [], _, _, h => by cases h; exact .nil
  | e :: ds, _, 0, h => by cases h with | cons a r => exact .cons q r
  | e :: ds, _, i + 1, h => by cases h with | cons a r => exact .cons a (DVs.set q i r)
theorem DVs.take : ∀ {ds : List D} {vs : List V} (n : Nat), DVs K H bad vs ds → DVs K H bad (vs.take n) (ds.take n)
  | _, _, 0, _ => .nil
  | [], _, _ + 1, h => by cases h; exact .nil
  | d :: ds, _, n + 1, h => by cases h with | cons a r => exact .cons a (DVs.take n r)
theorem DVs.drop : ∀ {ds : List D} {vs : List V} (n : Nat), DVs K H bad vs ds → DVs K H bad (vs.drop n) (ds.drop n)
  | _, _, 0, h => h
  | [], _, _ + 1, h => by cases h; exact .nil
  | d :: ds, _, n + 1, h => by cases h with | cons a r => exact DVs.drop n r
theorem DVs.reverse : ∀ {ds : List D} {vs : List V}, DVs K H bad vs ds → DVs K H bad vs.reverse ds.reverse
  | [], _, h => by cases h; exact .nil
  | d :: ds, _, h => by cases h with | cons a r => simp only [List.reverse_cons]; exact (DVs.reverse r).append (.cons a .nil)
theorem DVs.ints : ∀ {ns : List Int} {vs : List V}, DVs K H bad vs (ns.map .int) → vs = ns.map V.int
  | [], _, h => by cases h; rfl
  | n :: ns, _, h => by cases h with | cons a r => cases a; simp [DVs.ints r]
theorem DVs.of_ints : ∀ (ns : List Int), DVs K H bad (ns.map V.int) (ns.map .int)
  | [] => .nil
  | n :: ns => .cons (.int n) (DVs.of_ints ns)
end
/-! ### slots -/
inductive Sl where
  /-- an immutable or frozen thing -/
  | dat (d : D)
  /-- a list that only this name holds (io: the caller holds it too and gets it back) -/
  | own (io : Bool) (xs : List D)
abbrev Rho := List (Option Sl)
/-- what stands in a slot -/
def gt : Rho → Nat → Option Sl
  | [], _ => none
  | x :: _, 0 => x
  | _ :: r, i + 1 => gt r i
theorem gt_set : ∀ (ρ : Rho) (i j : Nat) (x : Option Sl), i < ρ.length → gt (ρ.set i x) j = if j = i then x else gt ρ j
  | [], _, _, _, h => by simp at h
  | _ :: _, 0, 0, _, _ => rfl
  | _ :: _, 0, j + 1, _, _ => by simp [List.set, gt]
  | _ :: _, i + 1, 0, _, _ => by simp [List.set, gt]
  | _ :: r, i + 1, j + 1, x, h => by
    have q := gt_set r i j x (by simpa using h)
    simp only [List.set, gt, q, Nat.add_right_cancel_iff]
theorem gt_lt : ∀ {ρ : Rho} {i : Nat} {s : Sl}, gt ρ i = some s → i < ρ.length
  | [], _, _, h => by simp [gt] at h
  | _ :: _, 0, _, _ => by simp
  | _ :: r, i + 1, s, h => by have := gt_lt (ρ := r) (i := i) h; simp; omega
theorem set_big : ∀ (ρ : Rho) (i : Nat) (x : Option Sl), ρ.length ≤ i → ρ.set i x = ρ
  | [], _, _, _ => rfl
  | _ :: _, 0, _, h => by simp at h
  | _ :: r, i + 1, x, h => by simp only [List.set]; rw [set_big r i x (by simpa using h)]
theorem gt_set_self {ρ : Rho} {i : Nat} {x : Option Sl} (h : i < ρ.length) : gt (ρ.set i x) i = x := by rw [gt_set _ _ _ _ h, if_pos rfl]
theorem gt_set_ne {ρ : Rho} {i j : Nat} {x : Option Sl} (h : j ≠ i) : gt (ρ.set i x) j = gt ρ j := by
  by_cases hl : i < ρ.length
  · rw [gt_set _ _ _ _ hl, if_neg h]
  · rw [set_big _ _ _ (by omega)]
/-- the address a is that of an owned list -/
def Own (σ : St) (ρ : Rho) (a : Addr) : Prop := ∃ i io xs, gt ρ i = some (Sl.own io xs) ∧ σ[i]? = some (some (V.ref a))
def Bad (F : Addr → Prop) (σ : St) (ρ : Rho) (a : Addr) : Prop := F a ∨ Own σ ρ a
structure Rp (K : PySem.W.Frag) (IO : Nat → Option Addr) (F : Addr → Prop) (H : Hp) (σ : St) (ρ : Rho) : Prop where
  dat : ∀ i d, gt ρ i = some (Sl.dat d) → ∃ v, σ[i]? = some (some v) ∧ DV K H (Bad F σ ρ) v d
  own : ∀ i io xs, gt ρ i = some (Sl.own io xs) → ∃ a vs, σ[i]? = some (some (V.ref a)) ∧ H a = some (.lst vs) ∧ DVs K H (Bad F σ ρ) vs xs ∧ ¬ F a ∧ (io = true → IO i = some a)
  inj : ∀ i j io jo xs ys a, gt ρ i = some (Sl.own io xs) → gt ρ j = some (Sl.own jo ys) → σ[i]? = some (some (V.ref a)) → σ[j]? = some (some (V.ref a)) → i = j
  fdom : ∀ a, F a → H a ≠ none
  len : ρ.length = σ.length
/-- from one state to a later one -/
structure Nx (σ : St) (ρ : Rho) (H : Hp) (σ' : St) (ρ' : Rho) (H' : Hp) : Prop where
  keep : ∀ a o, H a = some o → ¬ Own σ ρ a → H' a = some o
  sub : ∀ a, Own σ' ρ' a → Own σ ρ a ∨ H a = none
  there : ∀ a o, H a = some o → ∃ o', H' a = some o'
section
variable {K : PySem.W.Frag} {IO : Nat → Option Addr} {F G : Addr → Prop} {H H1 H2 : Hp} {σ σ1 σ2 : St} {ρ ρ1 ρ2 : Rho}
theorem Nx.refl : Nx σ ρ H σ ρ H := ⟨fun _ _ h _ => h, fun _ h => .inl h, fun _ o h => ⟨o, h⟩⟩
theorem Nx.trans (a : Nx σ ρ H σ1 ρ1 H1) (b : Nx σ1 ρ1 H1 σ2 ρ2 H2) : Nx σ ρ H σ2 ρ2 H2 := by
  refine ⟨fun x o h n => b.keep x o (a.keep x o h n) fun q => ?_, fun x q => ?_, fun x o h => ?_⟩
  · rcases a.sub x q with z | z
    · exact n z
    · rw [h] at z; cases z
  · rcases b.sub x q with z | z
    · exact a.sub x z
    · refine .inr ?_
      cases e : H x with
      | none => rfl
      | some o => obtain ⟨o', e'⟩ := a.there x o e; rw [z] at e'; cases e'
  · obtain ⟨o1, h1⟩ := a.there x o h
    exact b.there x o1 h1
/-- data and what is foreign stay -/
theorem Nx.bad (n : Nx σ ρ H σ1 ρ1 H1) : ∀ a o, H a = some o → ¬ Bad F σ ρ a → H1 a = some o ∧ ¬ Bad F σ1 ρ1 a := fun a o h nb =>
  ⟨n.keep a o h fun q => nb (.inr q), fun q => by
    rcases q with q | q
    · exact nb (.inl q)
    · rcases n.sub a q with z | z
      · exact nb (.inr z)
      · rw [h] at z; cases z⟩
theorem Nx.dv (n : Nx σ ρ H σ1 ρ1 H1) {v : V} {d : D} (h : DV K H (Bad F σ ρ) v d) : DV K H1 (Bad F σ1 ρ1) v d := h.mono n.bad
theorem Nx.dvs (n : Nx σ ρ H σ1 ρ1 H1) {v : List V} {d : List D} (h : DVs K H (Bad F σ ρ) v d) : DVs K H1 (Bad F σ1 ρ1) v d := h.mono n.bad
theorem Nx.fresh (n : Nx σ ρ H σ1 ρ1 H1) {a : Addr} (h : H1 a = Option.none) : H a = Option.none := by
  cases e : H a with
  | none => rfl
  | some o => obtain ⟨o', e'⟩ := n.there a o e; rw [h] at e'; cases e'
theorem Rp.own_dom (r : Rp K IO F H σ ρ) {a : Addr} (h : Own σ ρ a) : ∃ vs, H a = some (.lst vs) := by
  obtain ⟨i, io, xs, h1, h2⟩ := h
  obtain ⟨b, vs, e1, e2, _⟩ := r.own i io xs h1
  rw [h2] at e1; cases e1
  exact ⟨vs, e2⟩
theorem Rp.bad_dom (r : Rp K IO F H σ ρ) {a : Addr} (h : Bad F σ ρ a) : H a ≠ Option.none := by
  rcases h with h | h
  · exact r.fdom a h
  · obtain ⟨vs, e⟩ := r.own_dom h
    rw [e]; simp
theorem Rp.own_ne (r : Rp K IO F H σ ρ) {a : Addr} (h : Own σ ρ a) : ¬ F a := by
  obtain ⟨i, io, xs, h1, h2⟩ := h
  obtain ⟨b, vs, e1, _, _, e2, _⟩ := r.own i io xs h1
  rw [h2] at e1; cases e1
  exact e2
/-- fewer foreign addresses -/
theorem Rp.less (r : Rp K IO F H σ ρ) (h : ∀ a, G a → F a) : Rp K IO G H σ ρ := by
  have k : ∀ a o, H a = some o → ¬ Bad F σ ρ a → H a = some o ∧ ¬ Bad G σ ρ a := fun a o e n => ⟨e, fun q => n (q.imp (h a) id)⟩
  refine ⟨fun i d e => ?_, fun i io xs e => ?_, r.inj, fun a q => r.fdom a (h a q), r.len⟩
  · obtain ⟨v, h1, h2⟩ := r.dat i d e
    exact ⟨v, h1, h2.mono k⟩
  · obtain ⟨a, vs, h1, h2, h3, h4, h5⟩ := r.own i io xs e
    exact ⟨a, vs, h1, h2, h3.mono k, fun q => h4 (h a q), h5⟩
end
end DL
/-! DL2: results, readings at the level of data. -/
namespace DL
open PySem PySem.Spec PyProof.Rows L2
inductive Rs where
  | dat (d : D) | own (xs : List D) | ref (i : Nat)
/-- the address of a list that is held by the result alone -/
def fr (v : V) (r : Rs) (a : Addr) : Prop := match r with
  | .own _ => v = .ref a
  | _ => False
def FF (F : Addr → Prop) (v : V) (r : Rs) (a : Addr) : Prop := F a ∨ fr v r a
def R1 (K : PySem.W.Frag) (H : Hp) (bad : Addr → Prop) (σ : St) (v : V) : Rs → Prop
  | .dat d => DV K H bad v d
  | .own xs => ∃ a vs, v = .ref a ∧ H a = some (.lst vs) ∧ DVs K H bad vs xs
  | .ref i => σ[i]? = some (some v)
structure RsOk (K : PySem.W.Frag) (IO : Nat → Option Addr) (F : Addr → Prop) (H : Hp) (σ : St) (ρ : Rho) (v : V) (r : Rs) : Prop where
  rp : Rp K IO (FF F v r) H σ ρ
  r1 : R1 K H (Bad (FF F v r) σ ρ) σ v r
  nf : ∀ a, fr v r a → ¬ F a
structure Xn where
  cls : Str
  arg : Option D
/-- what is fixed while a body runs -/
structure Cf where
  K : PySem.W.Frag
  xt : Str → Option (Addr × Str)
  IO : Nat → Option Addr
  Eh : XK
def XnOk (K : PySem.W.Frag) (xt : Str → Option (Addr × Str)) (F : Addr → Prop) (H : Hp) (cls : Value) (dx : Option Addr) (x : Xn) : Prop :=
  ∃ C f, xt x.cls = some (C, f) ∧ cls = .ref C ∧ match x.arg with
    | none => dx = none
    | some d => ∃ a v, dx = some a ∧ H a = some (.xd [(f, v)]) ∧ DV K H F v d
/-- exceptions that are allowed reach what is wanted -/
def XC (c : Cf) (F : Addr → Prop) (E : Xn → Prop) (σ : St) (ρ : Rho) (H : Hp) : Prop :=
  ∀ cls dx H' x, (∀ a o, H a = some o → ¬ Own σ ρ a → H' a = some o) → XnOk c.K c.xt F H' cls dx x → E x → c.Eh cls dx H'
abbrev DTE := (Xn → Prop) → Rho → (Rs → Rho → Prop) → Prop
abbrev DTT := (Xn → Prop) → Rho → (Bool → Rho → Prop) → Prop
abbrev DTR := (Xn → Prop) → Rho → (List Rs → Rho → Prop) → Prop
def tD (c : Cf) (w : DTE) : TE := fun σ H Q => ∃ F ρ E Qd, Rp c.K c.IO F H σ ρ ∧ w E ρ Qd ∧ XC c F E σ ρ H ∧
  ∀ v H' ρ' r, Nx σ ρ H σ ρ' H' → RsOk c.K c.IO F H' σ ρ' v r → (∀ a, fr v r a → H a = none) → Qd r ρ' → Q v H'
def tDT (c : Cf) (w : DTT) : TT := fun σ H Q => ∃ F ρ E Qd, Rp c.K c.IO F H σ ρ ∧ w E ρ Qd ∧ XC c F E σ ρ H ∧
  ∀ b H' ρ', Nx σ ρ H σ ρ' H' → Rp c.K c.IO F H' σ ρ' → Qd b ρ' → Q b H'
inductive R1s (K : PySem.W.Frag) (H : Hp) (bad : Addr → Prop) (σ : St) : List V → List Rs → Prop
  | nil : R1s K H bad σ [] []
  | cons {v r vs rs} : R1 K H bad σ v r → (∀ xs, r ≠ .own xs) → R1s K H bad σ vs rs → R1s K H bad σ (v :: vs) (r :: rs)
theorem _root_.L2.PE.imp {X : Cx} {e : Expr} {t t' : TE} (h : PE X e t) (i : ∀ σ H Q, t' σ H Q → t σ H Q) : PE X e t' := ⟨fun pins s σ H Q I q => h.run pins s σ H Q I (i _ _ _ q)⟩
theorem _root_.L2.PT.imp {X : Cx} {e : Expr} {t t' : TT} (h : PT X e t) (i : ∀ σ H Q, t' σ H Q → t σ H Q) : PT X e t' := ⟨fun pins s σ H Q I q => h.run pins s σ H Q I (i _ _ _ q)⟩
theorem _root_.L2.PA.imp {X : Cx} {e : List Expr} {t t' : TA} (h : PA X e t) (i : ∀ σ H Q, t' σ H Q → t σ H Q) : PA X e t' := ⟨fun pos pins s σ H Q I q => h.run pos pins s σ H Q I (i _ _ _ q)⟩
theorem _root_.L2.PS.imp {X : Cx} {e : Stmt} {t t' : TS} (h : PS X e t) (i : ∀ D σ H, t' D σ H → t D σ H) : PS X e t' := ⟨fun pins s σ H D I q => h.run pins s σ H D I (i _ _ _ q)⟩
theorem _root_.L2.PSs.imp {X : Cx} {e : List Stmt} {t t' : TS} (h : PSs X e t) (i : ∀ D σ H, t' D σ H → t D σ H) : PSs X e t' := ⟨fun pins s σ H D I q => h.run pins s σ H D I (i _ _ _ q)⟩
section
variable {c : Cf} {K : PySem.W.Frag} {IO : Nat → Option Addr} {F G : Addr → Prop} {H H1 H2 : Hp} {σ σ1 σ2 : St} {ρ ρ1 ρ2 : Rho} {E : Xn → Prop} {v : V} {r : Rs}
theorem XC.nx (h : XC c F E σ ρ H) (n : Nx σ ρ H σ1 ρ1 H1) : XC c F E σ1 ρ1 H1 := fun cls dx H' x k ok e =>
  h cls dx H' x (fun a o q nq => k a o (n.keep a o q nq) fun z => by
    rcases n.sub a z with y | y
    · exact nq y
    · rw [q] at y; cases y) ok e
theorem FF_dat {d : D} : FF F v (.dat d) = F := by funext a; simp [FF, fr]
theorem FF_ref {i : Nat} : FF F v (.ref i) = F := by funext a; simp [FF, fr]
theorem RsOk.ofDat {d : D} (p : Rp K IO F H σ ρ) (q : DV K H (Bad F σ ρ) v d) : RsOk K IO F H σ ρ v (.dat d) :=
  ⟨by rw [FF_dat]; exact p, by rw [FF_dat]; exact q, fun _ z => z.elim⟩
theorem RsOk.ofRef {i : Nat} (p : Rp K IO F H σ ρ) (q : σ[i]? = some (some v)) : RsOk K IO F H σ ρ v (.ref i) :=
  ⟨by rw [FF_ref]; exact p, q, fun _ z => z.elim⟩
/-- a fresh list seen as a datum -/
def rd : Rs → Rs
  | .own xs => .dat (.list xs)
  | r => r
theorem bad_less {a : Addr} (h : Bad F σ ρ a) : Bad (FF F v r) σ ρ a := h.imp .inl id
theorem RsOk.rp' (h : RsOk K IO F H σ ρ v r) : Rp K IO F H σ ρ := h.rp.less fun a q => .inl q
theorem RsOk.r1' (h : RsOk K IO F H σ ρ v r) : R1 K H (Bad F σ ρ) σ v (rd r) := by
  have k : ∀ a o, H a = some o → ¬ Bad (FF F v r) σ ρ a → H a = some o ∧ ¬ Bad F σ ρ a := fun a o e n => ⟨e, fun q => n (bad_less q)⟩
  cases r with
  | dat d => have := h.r1; exact DV.mono k _ _ this
  | ref i => exact h.r1
  | own xs =>
    obtain ⟨a, vs, e1, e2, e3⟩ := h.r1
    subst e1
    refine .lst (.inl ⟨.inl e2, fun q => ?_⟩) (DVs.mono k _ _ e3)
    rcases q with q | q
    · exact h.nf a rfl q
    · exact h.rp.own_ne q (.inr rfl)
theorem rd_ne (xs : List D) : rd r ≠ .own xs := by cases r <;> simp [rd]
/-- a later state -/
theorem R1.nx {r : Rs} (h : R1 K H (Bad F σ ρ) σ v r) (hn : ∀ xs, r ≠ .own xs) (n : Nx σ ρ H σ ρ1 H1) : R1 K H1 (Bad F σ ρ1) σ v r := by
  cases r with
  | dat d => exact n.dv h
  | ref i => exact h
  | own xs => exact (hn xs rfl).elim
theorem R1s.nx {vs : List V} {rs : List Rs} (h : R1s K H (Bad F σ ρ) σ vs rs) (n : Nx σ ρ H σ ρ1 H1) : R1s K H1 (Bad F σ ρ1) σ vs rs := by
  induction h with
  | nil => exact .nil
  | cons a b _ ih => exact .cons (a.nx b n) b ih
/-! ### the content of a result -/
def deref (ρ : Rho) : Rs → Option D
  | .dat d => some d
  | .own xs => some (.list xs)
  | .ref i => match gt ρ i with
    | some (.dat d) => some d
    | some (.own _ xs) => some (.list xs)
    | none => none
/-- what may be read of a datum: a list that is owned may be read, too -/
inductive DR (K : PySem.W.Frag) (H : Hp) (bad : Addr → Prop) : V → D → Prop
  | dv {v : V} {d : D} : DV K H bad v d → DR K H bad v d
  | own {a : Addr} {vs : List V} {xs : List D} : H a = some (.lst vs) → DVs K H bad vs xs → DR K H bad (.ref a) (.list xs)
theorem deref_ok {d : D} (p : Rp K IO F H σ ρ) (h : R1 K H (Bad F σ ρ) σ v r) (e : deref ρ r = some d) : DR K H (Bad F σ ρ) v d := by
  cases r with
  | dat x => cases e; exact .dv h
  | own xs =>
    cases e
    obtain ⟨a, vs, rfl, e2, e3⟩ := h
    exact .own e2 e3
  | ref i =>
    have h' : σ[i]? = some (some v) := h
    simp only [deref] at e
    split at e
    · rename_i x q
      cases e
      obtain ⟨v', e1, e2⟩ := p.dat i _ q
      rw [h'] at e1; cases e1
      exact .dv e2
    · rename_i b xs q
      cases e
      obtain ⟨a, vs, e1, e2, e3, _⟩ := p.own i _ _ q
      rw [h'] at e1; cases e1
      exact .own e2 e3
    · cases e
theorem DR.dp {bad : Addr → Prop} {d : D} (h : DR K H bad v d) : Dp K H v d := by
  cases h with
  | dv h => exact h.dp
  | own a b => exact .lst (.inl (.inl a)) b.dp
theorem DR.list {bad : Addr → Prop} {xs : List D} (h : DR K H bad v (.list xs)) : ∃ a vs, v = .ref a ∧ SqL K H a vs ∧ DVs K H bad vs xs := by
  cases h with
  | dv h => cases h with | lst a b => exact ⟨_, _, rfl, a.sq, b⟩
  | own a b => exact ⟨_, _, rfl, .inl (.inl a), b⟩
theorem DR.tup {bad : Addr → Prop} {xs : List D} (h : DR K H bad v (.tuple xs)) : ∃ a vs, v = .ref a ∧ SqT K H a vs ∧ DVs K H bad vs xs := by
  cases h with
  | dv h => cases h with | tup a b => exact ⟨_, _, rfl, a.sq, b⟩
theorem DR.int {bad : Addr → Prop} {i : Int} (h : DR K H bad v (.int i)) : v = .int i := by cases h with | dv h => cases h; rfl
theorem DR.str {bad : Addr → Prop} {x : Str} (h : DR K H bad v (.str x)) : v = .str x := by cases h with | dv h => cases h; rfl
theorem DR.bl {bad : Addr → Prop} {b : Bool} (h : DR K H bad v (.bool b)) : v = .bl b := by cases h with | dv h => cases h; rfl
theorem DR.non {bad : Addr → Prop} (h : DR K H bad v .none) : v = .non := by cases h with | dv h => cases h; rfl
/-! ### escaping: a list becomes immutable -/
def esc : Rs → Rho → (D → Rho → Prop) → Prop
  | .dat d, ρ, k => k d ρ
  | .own xs, ρ, k => k (.list xs) ρ
  | .ref i, ρ, k => match gt ρ i with
    | some (.dat d) => k d ρ
    | some (.own false xs) => k (.list xs) (ρ.set i (some (.dat (.list xs))))
    | _ => False
theorem own_set_less {i : Nat} {d : D} {a : Addr} (h : Own σ (ρ.set i (some (.dat d))) a) : Own σ ρ a := by
  obtain ⟨j, io, xs, h1, h2⟩ := h
  refine ⟨j, io, xs, ?_, h2⟩
  by_cases hj : j = i
  · subst hj
    have hl := gt_lt h1
    rw [List.length_set] at hl
    rw [gt_set_self hl] at h1
    cases h1
  · rwa [gt_set_ne hj] at h1
theorem freeze {i : Nat} {xs : List D} (p : Rp K IO F H σ ρ) (e : gt ρ i = some (.own false xs)) (hv : σ[i]? = some (some v)) :
    Rp K IO F H σ (ρ.set i (some (.dat (.list xs)))) ∧ DV K H (Bad F σ (ρ.set i (some (.dat (.list xs))))) v (.list xs) ∧ Nx σ ρ H σ (ρ.set i (some (.dat (.list xs)))) H := by
  have n : Nx σ ρ H σ (ρ.set i (some (.dat (.list xs)))) H := ⟨fun _ _ h _ => h, fun a h => .inl (own_set_less h), fun _ o h => ⟨o, h⟩⟩
  obtain ⟨a, vs, e1, e2, e3, e4, _⟩ := p.own i _ _ e
  rw [hv] at e1; cases e1
  have no : ¬ Bad F σ (ρ.set i (some (.dat (.list xs)))) a := by
    rintro (q | ⟨j, io, ys, h1, h2⟩)
    · exact e4 q
    · by_cases hj : j = i
      · subst hj
        rw [gt_set_self (gt_lt e)] at h1
        cases h1
      · rw [gt_set_ne hj] at h1
        exact hj (p.inj j i _ _ _ _ a h1 e h2 hv)
  have dv : DV K H (Bad F σ (ρ.set i (some (.dat (.list xs))))) (.ref a) (.list xs) := .lst (.inl ⟨.inl e2, no⟩) (n.dvs e3)
  refine ⟨⟨fun j d q => ?_, fun j io ys q => ?_, fun j k io jo ys zs b h1 h2 h3 h4 => ?_, p.fdom, by simpa using p.len⟩, dv, n⟩
  · by_cases hj : j = i
    · subst hj
      rw [gt_set_self (gt_lt e)] at q
      cases q
      exact ⟨_, hv, dv⟩
    · rw [gt_set_ne hj] at q
      obtain ⟨w, h1, h2⟩ := p.dat j d q
      exact ⟨w, h1, n.dv h2⟩
  · have hj : j ≠ i := by
      rintro rfl
      rw [gt_set_self (gt_lt e)] at q
      cases q
    rw [gt_set_ne hj] at q
    obtain ⟨b, ws, h1, h2, h3, h4, h5⟩ := p.own j _ _ q
    exact ⟨b, ws, h1, h2, n.dvs h3, h4, h5⟩
  · have hj : j ≠ i := by
      rintro rfl
      rw [gt_set_self (gt_lt e)] at h1
      cases h1
    have hk : k ≠ i := by
      rintro rfl
      rw [gt_set_self (gt_lt e)] at h2
      cases h2
    rw [gt_set_ne hj] at h1
    rw [gt_set_ne hk] at h2
    exact p.inj j k _ _ _ _ b h1 h2 h3 h4
theorem esc_ok {k : D → Rho → Prop} (h : RsOk K IO F H σ ρ v r) (e : esc r ρ k) :
    ∃ d ρ', k d ρ' ∧ Rp K IO F H σ ρ' ∧ DV K H (Bad F σ ρ') v d ∧ Nx σ ρ H σ ρ' H := by
  cases r with
  | dat d => exact ⟨d, ρ, e, h.rp', h.r1', Nx.refl⟩
  | own xs => exact ⟨_, ρ, e, h.rp', h.r1', Nx.refl⟩
  | ref i =>
    have h' : σ[i]? = some (some v) := h.r1
    have p := h.rp'
    simp only [esc] at e
    split at e
    · rename_i d q
      obtain ⟨v', e1, e2⟩ := p.dat i _ q
      rw [h'] at e1; cases e1
      exact ⟨d, ρ, e, p, e2, Nx.refl⟩
    · rename_i xs q
      obtain ⟨f1, f2, f3⟩ := freeze p q h'
      exact ⟨_, _, e, f1, f2, f3⟩
    · exact e.elim
end
end DL
/-! DL3: a small syntax and what it means at the level of data. -/
namespace DL
open PySem PySem.Spec PyProof.Rows L2
inductive O2 where | add | sub | mul | fdiv | mod | pow
  deriving DecidableEq
inductive C2 where | lt | le | gt | ge | eq | ne | isin | notin
  deriving DecidableEq
inductive Bi where | len | tuple | list | abs | int | divmod | gcd | isInt | isBool | isTuple | repr | sum | sorted | all | any | max | min | str | isStr | isList
  deriving DecidableEq
/-- a target of names -/
inductive Tn where
  | name (i : Nat)
  | tup (ts : List Tn)
inductive Ex where
  | lit (d : D)
  | con (x : String) (d : D)
  | var (i : Nat)
  | op2 (o : O2) (a b : Ex)
  | repL (es : List Ex) (n : Ex)
  | cmp (o : C2) (a b : Ex)
  | isN (a : Ex) | notN (a : Ex)
  | chain (o o' : C2) (a b c : Ex)
  | neg (a : Ex) | not (a : Ex)
  | and (a b : Ex) | or (a b : Ex)
  | ife (c a b : Ex)
  | tup (es : List Ex) | lst (es : List Ex)
  | idx (a b : Ex)
  | slc (a : Ex) (lo hi : Option Ex)
  | call (f : String) (es : List Ex)
  | callK (f : String) (ks : List String) (es : List Ex)
  | callIo (f : String) (a : Ex) (es : List Ex)
  | bi (b : Bi) (es : List Ex)
  | comp (elt : Ex) (tg : Tn) (it : Ex) (ifs : Option Ex) (own : List Nat)
  | listR (es : List Ex)
  | listZ (a b : Ex)
  | range (es : List Ex) | enum (a : Ex) | zip (a b : Ex) | rev (a : Ex)
  | pop (i : Nat) (e : Option Ex)
  | index (a b : Ex) | count (a b : Ex)
/-- a target of an assignment -/
inductive Ta where
  | name (i : Nat)
  | sub (i : Nat) (ix : Ex)
  | tup (ts : List Ta)
inductive Sm where
  | asg (t : Ta) (e : Ex)
  | par (ts : List Ta) (es : List Ex)
  | aug (i : Nat) (o : O2) (e : Ex)
  | expr (e : Ex)
  | app (i : Nat) (e : Ex) | ext (i : Nat) (e : Ex) | ins (i : Nat) (a b : Ex)
  | ret (e : Ex) | retN
  | ite (c : Ex) (a b : List Sm)
  | for_ (t : Tn) (it : Ex) (b : List Sm)
  | while_ (c : Ex) (b : List Sm)
  | raise_ (x : String) (e : Option Ex)
  | brk | cont | pass
/-! ### operations -/
def MulOk (i j : Int) : Prop := (Builtin.Int.intBits i : Int) + (Builtin.Int.intBits j : Int) ≤ 134217728
def DivOk (j : Int) : Prop := 0 < j ∧ j.natAbs.log2 < 9000
def LenOk (n : Nat) : Prop := n ≤ sizeLine
abbrev KR := Rs → Prop
def op2D : O2 → D → D → KR → Prop
  | .add, .int i, .int j, k => k (.dat (.int (i + j)))
  | .add, .list xs, .list ys, k => LenOk (xs.length + ys.length) ∧ k (.own (xs ++ ys))
  | .add, .tuple xs, .tuple ys, k => LenOk (xs.length + ys.length) ∧ k (.dat (.tuple (xs ++ ys)))
  | .add, .str x, .str y, k => LenOk (x.length + y.length) ∧ k (.dat (.str (x ++ y)))
  | .sub, .int i, .int j, k => k (.dat (.int (i - j)))
  | .mul, .int i, .int j, k => MulOk i j ∧ k (.dat (.int (i * j)))
  | .mul, .tuple xs, .int j, k => 1 ≤ j ∧ j ≤ 1000 ∧ xs ≠ [] ∧ xs.length ≤ 1000 ∧ k (.dat (.tuple (List.replicate j.toNat xs).flatten))
  | .fdiv, .int i, .int j, k => DivOk j ∧ k (.dat (.int (i / j)))
  | .mod, .int i, .int j, k => 0 < j ∧ k (.dat (.int (i % j)))
  | .pow, .int i, .int j, k => (0 ≤ j ∧ j ≤ 1000000 ∧ i.natAbs < 2 ^ 64) ∧ k (.dat (.int (i ^ j.toNat)))
  | _, _, _, _ => False
/-- whether a datum equals one of some -/
def inD (x : D) (xs : List D) : Bool := xs.any fun y => PyData.eqv y x
def shp (d : D) : Prop := SeqAt.shaped d = true
def cmpD : C2 → D → D → (Bool → Prop) → Prop
  | .lt, .int i, .int j, k => k (decide (i < j))
  | .le, .int i, .int j, k => k (decide (i ≤ j))
  | .gt, .int i, .int j, k => k (decide (j < i))
  | .ge, .int i, .int j, k => k (decide (j ≤ i))
  | .eq, x, y, k => shp x ∧ shp y ∧ k (PyData.eqv x y)
  | .ne, x, y, k => shp x ∧ shp y ∧ k (!PyData.eqv x y)
  | .isin, x, .list ys, k => shp x ∧ shp (.list ys) ∧ k (inD x ys)
  | .isin, x, .tuple ys, k => shp x ∧ shp (.tuple ys) ∧ k (inD x ys)
  | .notin, x, .list ys, k => shp x ∧ shp (.list ys) ∧ k (!inD x ys)
  | .notin, x, .tuple ys, k => shp x ∧ shp (.tuple ys) ∧ k (!inD x ys)
  | _, _, _, _ => False
def isNone : D → Bool
  | .none => true
  | _ => false
def idxD : D → D → (D → Prop) → Prop
  | .list xs, .int i, k => match atI xs i with
    | some x => k x
    | none => False
  | .tuple xs, .int i, k => match atI xs i with
    | some x => k x
    | none => False
  | _, _, _ => False
def cutD (xs : List D) (lo hi : Option Int) : List D := (xs.drop (HT.sIx xs.length 0 lo)).take (HT.sIx xs.length xs.length hi - HT.sIx xs.length 0 lo)
def slcD : D → Option Int → Option Int → KR → Prop
  | .list xs, lo, hi, k => k (.own (cutD xs lo hi))
  | .tuple xs, lo, hi, k => k (.dat (.tuple (cutD xs lo hi)))
  | _, _, _, _ => False
def isIntD : D → Bool
  | .int _ | .bool _ => true
  | _ => false
def isBoolD : D → Bool
  | .bool _ => true
  | _ => false
def isTupleD : D → Bool
  | .tuple _ => true
  | _ => false
def isListD : D → Bool
  | .list _ => true
  | _ => false
def isStrD : D → Bool
  | .str _ => true
  | _ => false
/-- some ints -/
def intsD : List D → Option (List Int)
  | [] => some []
  | .int i :: r => (intsD r).map (i :: ·)
  | _ :: _ => none
def boolsD : List D → Option (List Bool)
  | [] => some []
  | .bool i :: r => (boolsD r).map (i :: ·)
  | _ :: _ => none
def ReprOk (d : D) : Prop := d.showable = true ∧ d.depth ≤ 60 ∧ d.shown.length ≤ sizeLine
def bLen : List D → KR → Prop
  | [.list xs], k => k (.dat (.int xs.length))
  | [.tuple xs], k => k (.dat (.int xs.length))
  | _, _ => False
def bTuple : List D → KR → Prop
  | [.list xs], k => k (.dat (.tuple xs))
  | [.tuple xs], k => k (.dat (.tuple xs))
  | _, _ => False
def bList : List D → KR → Prop
  | [.list xs], k => k (.own xs)
  | [.tuple xs], k => k (.own xs)
  | _, _ => False
def bAbs : List D → KR → Prop
  | [.int i], k => k (.dat (.int (if i < 0 then -i else i)))
  | _, _ => False
def bInt : List D → KR → Prop
  | [.int i], k => k (.dat (.int i))
  | [.bool b], k => k (.dat (.int (if b then 1 else 0)))
  | _, _ => False
def bDivmod : List D → KR → Prop
  | [.int i, .int j], k => (0 < j ∧ j < 1073741824) ∧ k (.dat (.tuple [.int (i / j), .int (i % j)]))
  | _, _ => False
def bGcd : List D → KR → Prop
  | [.int i, .int j], k => k (.dat (.int ((Nat.gcd i.natAbs j.natAbs : Nat) : Int)))
  | _, _ => False
def bIs (f : D → Bool) : List D → KR → Prop
  | [d], k => k (.dat (.bool (f d)))
  | _, _ => False
def bRepr : List D → KR → Prop
  | [d], k => ReprOk d ∧ k (.dat (.str d.shown))
  | _, _ => False
def bInts (g : List Int → (D → Prop) → Prop) : List D → KR → Prop
  | [.list xs], k => match intsD xs with
    | some ns => g ns fun d => k (.dat d)
    | none => False
  | _, _ => False
def bBools (f : List Bool → Bool) : List D → KR → Prop
  | [.list xs], k => match boolsD xs with
    | some bs => k (.dat (.bool (f bs)))
    | none => False
  | _, _ => False
def bMax : List D → KR → Prop
  | [.int i, .int j], k => k (.dat (.int (if j > i then j else i)))
  | [.list xs], k => match intsD xs with
    | some ns => ns ≠ [] ∧ ∀ m, m ∈ ns → (∀ y, y ∈ ns → y ≤ m) → k (.dat (.int m))
    | none => False
  | _, _ => False
def bMin : List D → KR → Prop
  | [.int i, .int j], k => k (.dat (.int (if j < i then j else i)))
  | [.list xs], k => match intsD xs with
    | some ns => ns ≠ [] ∧ ∀ m, m ∈ ns → (∀ y, y ∈ ns → m ≤ y) → k (.dat (.int m))
    | none => False
  | _, _ => False
/-- sorted: some arrangement by the order -/
def bSorted : List D → KR → Prop
  | [.list xs], k => match intsD xs with
    | some ns => ns.length < 64 ∧ ∀ ns' : List Int, ns'.Perm ns → ns'.Pairwise (· ≤ ·) → k (.own (ns'.map .int))
    | none => ∃ (d : Nat) (B : Int), 1 ≤ d ∧ xs.length < 64 ∧ (∀ x ∈ xs, ∃ ns : List Int, x = .tuple (ns.map .int) ∧ ns.length = d ∧ TS.Bd B ns) ∧
      ∀ ys : List D, ys.Perm xs → ys.Pairwise (fun x y => ∀ n m : List Int, x = .tuple (n.map .int) → y = .tuple (m.map .int) → TS.code B n ≤ TS.code B m) → k (.own ys)
  | _, _ => False
def biD : Bi → List D → KR → Prop
  | .len => bLen
  | .tuple => bTuple
  | .list => bList
  | .abs => bAbs
  | .int => bInt
  | .divmod => bDivmod
  | .gcd => bGcd
  | .isInt => bIs isIntD
  | .isBool => bIs isBoolD
  | .isTuple => bIs isTupleD
  | .isList => bIs isListD
  | .isStr => bIs isStrD
  | .repr => bRepr
  | .sum => bInts fun ns k => k (.int ns.sum)
  | .all => bBools fun bs => bs.all id
  | .any => bBools fun bs => bs.any id
  | .max => bMax
  | .min => bMin
  | .sorted => bSorted
  | .str => fun _ _ => False
/-! ### programs -/
/-- what a def promises: its arguments' slots; the answer with what the lists of the caller hold then; an exception -/
abbrev DSp := List Sl → (Rs → List (List D) → Prop) → (Xn → Prop) → Prop
abbrev Gam := String → DSp
abbrev DTI := (Xn → Prop) → Rho → (List D → (Rho → Prop) → Rho → Prop) → Prop
/-- as a value, as a test, as what a comprehension walks, as what a for walks -/
structure W4 where
  e : DTE
  t : DTT
  i : DTI
  f : DTI
def asT (w : DTE) : DTT := fun E ρ Q => w E ρ fun r ρ1 => match r with
  | .dat (.bool b) => Q b ρ1
  | _ => False
def seqD : D → Option (List D)
  | .list xs => some xs
  | .tuple xs => some xs
  | _ => none
def chk (r : Rs) (xs : List D) : Rho → Prop := match r with
  | .ref i => fun ρ => deref ρ (.ref i) = some (.list xs)
  | _ => fun _ => True
def asI (w : DTE) : DTI := fun E ρ k => w E ρ fun r ρ1 => match deref ρ1 r with
  | some (.list xs) => k xs (chk r xs) ρ1
  | some (.tuple xs) => match r with
    | .dat _ => k xs (fun _ => True) ρ1
    | _ => False
  | _ => False
def asF (w : DTE) : DTI := fun E ρ k => w E ρ fun r ρ1 => esc r ρ1 fun d ρ2 => match seqD d with
    | some xs => k xs (fun _ => True) ρ2
    | none => False
def noI : DTI := fun _ _ _ => False
/-- from the value alone -/
def W4.of (w : DTE) : W4 := ⟨w, asT w, asI w, asF w⟩
/-- arguments from the left -/
def eL : List W4 → DTR
  | [] => fun _ ρ Q => Q [] ρ
  | w :: ws => fun E ρ Q => w.e E ρ fun r ρ1 => eL ws E ρ1 fun rs ρ2 => Q (r :: rs) ρ2
def escs : List Rs → Rho → (List D → Rho → Prop) → Prop
  | [], ρ, k => k [] ρ
  | r :: rs, ρ, k => esc r ρ fun d ρ1 => escs rs ρ1 fun ds ρ2 => k (d :: ds) ρ2
def derefs (ρ : Rho) : List Rs → Option (List D)
  | [] => some []
  | r :: rs => match deref ρ r, derefs ρ rs with
    | some d, some ds => some (d :: ds)
    | _, _ => none
def with2 (ρ : Rho) (r s : Rs) (k : D → D → Prop) : Prop := match deref ρ r, deref ρ s with
  | some x, some y => k x y
  | _, _ => False
def with1 (ρ : Rho) (r : Rs) (k : D → Prop) : Prop := match deref ρ r with
  | some x => k x
  | _ => False
def withs (ρ : Rho) (rs : List Rs) (k : List D → Prop) : Prop := match derefs ρ rs with
  | some x => k x
  | _ => False
/-- names of a target -/
def asnN : Tn → D → Rho → (Rho → Prop) → Prop
  | .name i, d, ρ, k => match gt ρ i with
    | some (.own true _) => False
    | _ => k (ρ.set i (some (.dat d)))
  | .tup [.name i, .name j], .tuple [a, b], ρ, k => match gt ρ i, gt ρ j with
    | some (.own true _), _ => False
    | _, some (.own true _) => False
    | _, _ => k ((ρ.set i (some (.dat a))).set j (some (.dat b)))
  | .tup [.name i, .name j, .name l], .tuple [a, b, c], ρ, k => match gt ρ i, gt ρ j, gt ρ l with
    | some (.own true _), _, _ => False
    | _, some (.own true _), _ => False
    | _, _, some (.own true _) => False
    | _, _, _ => k (((ρ.set i (some (.dat a))).set j (some (.dat b))).set l (some (.dat c)))
  | _, _, _, _ => False
def wipeR (ρ : Rho) : List Nat → Rho
  | [] => ρ
  | i :: is => (wipeR ρ is).set i none
/-- none of the places holds an owned list -/
def noOwn (ρ : Rho) (is : List Nat) : Prop := ∀ i ∈ is, ∀ b xs, gt ρ i ≠ some (.own b xs)
def restR (ρ0 ρ : Rho) : List Nat → Rho
  | [] => ρ
  | i :: is => (restR ρ0 ρ is).set i ((gt ρ0 i))
def compL (g : D → Rho → (Rho → Prop) → Prop) (tt : DTT) (te : DTE) (ck : Rho → Prop) (own : List Nat) (Q : List D → Rho → Prop) : List D → List D → Rho → Prop
  | [], acc, ρ => ck ρ ∧ Q acc ρ
  | x :: xs, acc, ρ => ck ρ ∧ g x ρ fun ρ1 => tt (fun _ => False) ρ1 fun b ρ2 =>
      if b = true then te (fun _ => False) ρ2 fun r ρ3 => esc r ρ3 fun d ρ4 => compL g tt te ck own Q xs (acc ++ [d]) (wipeR ρ4 own)
      else compL g tt te ck own Q xs acc (wipeR ρ2 own)
def optI (w : Option W4) : (Xn → Prop) → Rho → (Option Int → Rho → Prop) → Prop := match w with
  | none => fun _ ρ k => k none ρ
  | some w => fun E ρ k => w.e E ρ fun r ρ1 => match r with
    | .dat (.int i) => k (some i) ρ1
    | _ => False
def rngD : List D → (List D → Prop) → Prop
  | [.int n], k => (-(2 ^ 62) ≤ n ∧ n < 2 ^ 62) ∧ LenOk n.toNat ∧ k ((List.range n.toNat).map fun (i : Nat) => PyData.int i)
  | [.int a, .int b], k => (-(2 ^ 62) ≤ a ∧ a < 2 ^ 62 ∧ -(2 ^ 62) ≤ b ∧ b < 2 ^ 62) ∧ LenOk (b - a).toNat ∧ k ((List.range (b - a).toNat).map fun (i : Nat) => PyData.int (a + i))
  | _, _ => False
def enumD (xs : List D) : List D := xs.zipIdx.map fun p => .tuple [.int p.2, p.1]
def zipD (xs ys : List D) : List D := (xs.zip ys).map fun p => .tuple [p.1, p.2]
def callW (sp : DSp) (ws : List W4) : DTE := fun E ρ Q => eL ws E ρ fun rs ρ1 => escs rs ρ1 fun ds ρ2 => sp (ds.map .dat) (fun r _ => Q r ρ2) E
def callIoW (sp : DSp) (w : W4) (ws : List W4) : DTE := fun E ρ Q => eL (w :: ws) E ρ fun rs ρ1 => match rs with
  | [] => False
  | r0 :: rs => escs rs ρ1 fun ds ρ2 => match r0 with
    | .ref i => match gt ρ2 i with
      | some (.own b xs) => sp (.own true xs :: ds.map .dat) (fun r outs => match outs with
          | [ys] => Q r (ρ2.set i (some (.own b ys)))
          | _ => False) E
      | _ => False
    | .own xs => sp (.own true xs :: ds.map .dat) (fun r outs => match outs with
          | [_] => Q r ρ2
          | _ => False) E
    | .dat _ => False
def zipW (wr : DTR) : DTI := fun E ρ k => wr E ρ fun rs ρ1 => escs rs ρ1 fun ds ρ2 => match ds with
  | [d, d'] => match seqD d, seqD d' with
    | some xs, some ys => k (zipD xs ys) (fun _ => True) ρ2
    | _, _ => False
  | _ => False
mutual
def wp (Γ : Gam) : Ex → W4
  | .lit d => .of fun _ ρ Q => Q (.dat d) ρ
  | .con _ d => .of fun _ ρ Q => Q (.dat d) ρ
  | .var i => .of fun _ ρ Q => match gt ρ i with
    | some (.dat d) => Q (.dat d) ρ
    | some (.own _ _) => Q (.ref i) ρ
    | none => False
  | .op2 o a b => .of fun E ρ Q => (wp Γ a).e E ρ fun r ρ1 => (wp Γ b).e E ρ1 fun s ρ2 => with2 ρ2 r s fun x y => op2D o x y fun z => Q z ρ2
  | .repL es n => .of fun E ρ Q => eL (wps Γ es) E ρ fun rs ρ1 => escs rs ρ1 fun ds ρ2 => (wp Γ n).e E ρ2 fun r ρ3 => match r with
    | .dat (.int j) => (-(2 ^ 63) ≤ j ∧ j < 2 ^ 63 ∧ LenOk (ds.length * j.toNat)) ∧ Q (.own (List.replicate j.toNat ds).flatten) ρ3
    | _ => False
  | .cmp o a b => .of fun E ρ Q => (wp Γ a).e E ρ fun r ρ1 => (wp Γ b).e E ρ1 fun s ρ2 => with2 ρ2 r s fun x y => cmpD o x y fun z => Q (.dat (.bool z)) ρ2
  | .isN a => .of fun E ρ Q => (wp Γ a).e E ρ fun r ρ1 => with1 ρ1 r fun x => Q (.dat (.bool (isNone x))) ρ1
  | .notN a => .of fun E ρ Q => (wp Γ a).e E ρ fun r ρ1 => with1 ρ1 r fun x => Q (.dat (.bool (!isNone x))) ρ1
  | .chain o o' a b c => .of fun E ρ Q => (wp Γ a).e E ρ fun r ρ1 => (wp Γ b).e E ρ1 fun s ρ2 => with2 ρ2 r s fun x y => cmpD o x y fun z =>
      if z = true then (wp Γ c).e E ρ2 fun t ρ3 => with2 ρ3 s t fun y' u => cmpD o' y' u fun q => Q (.dat (.bool q)) ρ3
      else Q (.dat (.bool false)) ρ2
  | .neg a => .of fun E ρ Q => (wp Γ a).e E ρ fun r ρ1 => match r with
    | .dat (.int i) => Q (.dat (.int (-i))) ρ1
    | _ => False
  | .not a => ⟨fun E ρ Q => (wp Γ a).e E ρ fun r ρ1 => (match r with
      | .dat (.bool b) => Q (.dat (.bool (!b))) ρ1
      | _ => False), fun E ρ Q => (wp Γ a).t E ρ fun b ρ1 => Q (!b) ρ1, noI, noI⟩
  | .and a b => ⟨fun E ρ Q => (wp Γ a).e E ρ fun r ρ1 => (match r with
      | .dat (.bool c) => if c = true then (wp Γ b).e E ρ1 Q else Q (.dat (.bool false)) ρ1
      | _ => False), fun E ρ Q => (wp Γ a).t E ρ fun c ρ1 => (if c = true then (wp Γ b).t E ρ1 Q else Q false ρ1), noI, noI⟩
  | .or a b => ⟨fun E ρ Q => (wp Γ a).e E ρ fun r ρ1 => (match r with
      | .dat (.bool c) => if c = true then Q (.dat (.bool true)) ρ1 else (wp Γ b).e E ρ1 Q
      | _ => False), fun E ρ Q => (wp Γ a).t E ρ fun c ρ1 => (if c = true then Q true ρ1 else (wp Γ b).t E ρ1 Q), noI, noI⟩
  | .ife c a b => .of fun E ρ Q => (wp Γ c).t E ρ fun q ρ1 => if q = true then (wp Γ a).e E ρ1 Q else (wp Γ b).e E ρ1 Q
  | .tup es => .of fun E ρ Q => eL (wps Γ es) E ρ fun rs ρ1 => escs rs ρ1 fun ds ρ2 => Q (.dat (.tuple ds)) ρ2
  | .lst es => .of fun E ρ Q => eL (wps Γ es) E ρ fun rs ρ1 => escs rs ρ1 fun ds ρ2 => Q (.own ds) ρ2
  | .idx a b => .of fun E ρ Q => (wp Γ a).e E ρ fun r ρ1 => (wp Γ b).e E ρ1 fun s ρ2 => with2 ρ2 r s fun x y => idxD x y fun z => Q (.dat z) ρ2
  | .slc a lo hi => .of fun E ρ Q => (wp Γ a).e E ρ fun r ρ1 => optI (wpo Γ lo) E ρ1 fun i ρ2 => optI (wpo Γ hi) E ρ2 fun j ρ3 => with1 ρ3 r fun x => slcD x i j fun z => Q z ρ3
  | .call f es => .of (callW (Γ f) (wps Γ es))
  | .callK f _ es => .of (callW (Γ f) (wps Γ es))
  | .callIo f a es => .of (callIoW (Γ f) (wp Γ a) (wps Γ es))
  | .bi b es => .of fun E ρ Q => eL (wps Γ es) E ρ fun rs ρ1 => withs ρ1 rs fun ds => biD b ds fun z => Q z ρ1
  | .comp elt tg it ifs own => .of fun E ρ Q => (wp Γ it).i E ρ fun xs ck ρ1 => noOwn ρ1 own ∧
      compL (asnN tg) (match wpo Γ ifs with
        | none => fun _ ρ Q => Q true ρ
        | some w => w.t) (wp Γ elt).e ck own (fun acc ρ2 => Q (.own acc) (restR ρ1 ρ2 own)) xs [] (wipeR ρ1 own)
  | .listR es => .of fun E ρ Q => eL (wps Γ es) E ρ fun rs ρ1 => withs ρ1 rs fun ds => rngD ds fun xs => xs.length ≤ 16777216 ∧ Q (.own xs) ρ1
  | .listZ a b => .of fun E ρ Q => zipW (eL [wp Γ a, wp Γ b]) E ρ fun xs _ ρ1 => Q (.own xs) ρ1
  | .range es => ⟨fun _ _ _ => False, fun _ _ _ => False,
      fun E ρ k => eL (wps Γ es) E ρ fun rs ρ1 => withs ρ1 rs fun ds => rngD ds fun xs => k xs (fun _ => True) ρ1,
      fun E ρ k => eL (wps Γ es) E ρ fun rs ρ1 => withs ρ1 rs fun ds => rngD ds fun xs => k xs (fun _ => True) ρ1⟩
  | .enum a => ⟨fun _ _ _ => False, fun _ _ _ => False,
      fun E ρ k => asI (wp Γ a).e E ρ fun xs ck ρ1 => k (enumD xs) ck ρ1,
      fun E ρ k => asF (wp Γ a).e E ρ fun xs ck ρ1 => k (enumD xs) ck ρ1⟩
  | .zip a b => ⟨fun _ _ _ => False, fun _ _ _ => False,
      zipW (eL [wp Γ a, wp Γ b]), zipW (eL [wp Γ a, wp Γ b])⟩
  | .rev a => ⟨fun _ _ _ => False, fun _ _ _ => False,
      fun E ρ k => asI (wp Γ a).e E ρ fun xs ck ρ1 => k xs.reverse ck ρ1,
      fun E ρ k => asF (wp Γ a).e E ρ fun xs ck ρ1 => k xs.reverse ck ρ1⟩
  | .pop i e => .of fun E ρ Q => (match gt ρ i with
    | some (.own _ _) => True
    | _ => False) ∧ optI (wpo Γ e) E ρ fun j ρ1 => match gt ρ1 i with
    | some (.own b xs) => match ixN xs.length (j.getD (-1)) with
      | some n => match xs[n]? with
        | some x => xs.length ≤ 1000 ∧ Q (.dat x) (ρ1.set i (some (.own b (xs.eraseIdx n))))
        | none => False
      | none => False
    | _ => False
  | .index a b => .of fun E ρ Q => (wp Γ a).e E ρ fun r ρ1 => with1 ρ1 r (fun x0 => isListD x0 = true) ∧ (wp Γ b).e E ρ1 fun s ρ2 => with2 ρ2 r s fun x y => match x with
    | .list xs => shp y ∧ shp (.list xs) ∧ match xs.findIdx? (fun z => PyData.eqv z y) with
      | some n => Q (.dat (.int n)) ρ2
      | none => False
    | _ => False
  | .count a b => .of fun E ρ Q => (wp Γ a).e E ρ fun r ρ1 => (wp Γ b).e E ρ1 fun s ρ2 => with2 ρ2 r s fun x y => match seqD x with
    | some xs => shp y ∧ shp (.list xs) ∧ Q (.dat (.int (xs.filter fun z => PyData.eqv z y).length)) ρ2
    | none => False
def wps (Γ : Gam) : List Ex → List W4
  | [] => []
  | e :: es => wp Γ e :: wps Γ es
def wpo (Γ : Gam) : Option Ex → Option W4
  | none => none
  | some e => some (wp Γ e)
end
end DL
/-! DL4: the operations keep what DL3 says of them. -/
namespace DL
open PySem PySem.Spec PyProof.Rows L2
/-- what an operation on values hands back -/
def ResB (K : PySem.W.Frag) (bad : Addr → Prop) (H : Hp) (v : V) (H' : Hp) (r : Rs) : Prop :=
  (∀ a o, H a = some o → H' a = some o) ∧ match r with
    | .dat d => DV K H' bad v d
    | .own xs => ∃ a vs, v = .ref a ∧ H a = none ∧ H' a = some (.lst vs) ∧ DVs K H' (fun b => bad b ∨ b = a) vs xs
    | .ref _ => False
def rD2 (K : PySem.W.Frag) (g : D → D → KR → Prop) : R2 := fun x y H Q => ∃ bad dx dy k, DR K H bad x dx ∧ DR K H bad y dy ∧ (∀ a, bad a → H a ≠ none) ∧ g dx dy k ∧ ∀ v H' r, ResB K bad H v H' r → k r → Q v H'
section
variable {X : Cx} {K : PySem.W.Frag} {IO : Nat → Option Addr} {F : Addr → Prop} {bad : Addr → Prop} {H H' : Hp} {σ : St} {ρ : Rho} {v : V} {r : Rs}
theorem ResB.ok (p : Rp K IO F H σ ρ) (h : ResB K (Bad F σ ρ) H v H' r) : Nx σ ρ H σ ρ H' ∧ RsOk K IO F H' σ ρ v r := by
  obtain ⟨s, h⟩ := h
  have n : Nx σ ρ H σ ρ H' := ⟨fun a o e _ => s a o e, fun a q => .inl q, fun a o e => ⟨o, s a o e⟩⟩
  have base : ∀ G : Addr → Prop, (∀ a, G a → F a ∨ H a = none) → (∀ a, F a → G a) → (∀ a, G a → H' a ≠ none) → Rp K IO G H' σ ρ := fun G hG hF hd => by
    have k : ∀ a o, H a = some o → ¬ Bad F σ ρ a → H' a = some o ∧ ¬ Bad G σ ρ a := fun a o e nb => ⟨s a o e, fun q => by
      rcases q with q | q
      · rcases hG a q with z | z
        · exact nb (.inl z)
        · rw [e] at z; cases z
      · exact nb (.inr q)⟩
    refine ⟨fun i d e => ?_, fun i io xs e => ?_, p.inj, hd, p.len⟩
    · obtain ⟨w, h1, h2⟩ := p.dat i d e
      exact ⟨w, h1, h2.mono k⟩
    · obtain ⟨a, vs, h1, h2, h3, h4, h5⟩ := p.own i io xs e
      refine ⟨a, vs, h1, s _ _ h2, h3.mono k, fun q => ?_, h5⟩
      rcases hG a q with z | z
      · exact h4 z
      · rw [h2] at z; cases z
  refine ⟨n, ?_⟩
  cases r with
  | dat d => exact .ofDat (base F (fun a q => .inl q) (fun a q => q) (fun a q => by
      have := p.fdom a q
      cases e : H a with
      | none => exact (this e).elim
      | some o => rw [s a o e]; simp)) h
  | ref i => exact h.elim
  | own xs =>
    obtain ⟨a, vs, rfl, h1, h2, h3⟩ := h
    have na : ¬ F a := fun q => p.fdom a q h1
    refine ⟨base _ (fun b q => ?_) (fun b q => .inl q) (fun b q => ?_), ⟨a, vs, rfl, h2, ?_⟩, fun b q => ?_⟩
    · rcases q with q | q
      · exact .inl q
      · cases q; exact .inr h1
    · rcases q with q | q
      · have := p.fdom b q
        cases e : H b with
        | none => exact (this e).elim
        | some o => rw [s b o e]; simp
      · cases q; rw [h2]; simp
    · refine h3.mono fun b o e nb => ⟨e, fun q => nb ?_⟩
      rcases q with (q | q) | q
      · exact .inl (.inl q)
      · cases q; exact .inr rfl
      · exact .inl (.inr q)
    · cases q; exact na
theorem up_new {p : Addr} {o : HO} (hp : H p = none) : ∀ a u, H a = some u → upd H p o a = some u := fun a u e => by rw [upd_ne (ne_of_none e hp)]; exact e
theorem dvs_new {p : Addr} {o : HO} (hp : H p = none) {vs : List V} {xs : List D} (h : DVs K H bad vs xs) : DVs K (upd H p o) bad vs xs := h.mono fun a u e nb => ⟨up_new hp a u e, nb⟩
theorem dvs_newb {p : Addr} {o : HO} (hp : H p = none) {vs : List V} {xs : List D} (h : DVs K H bad vs xs) : DVs K (upd H p o) (fun b => bad b ∨ b = p) vs xs := h.mono fun a u e nb => ⟨up_new hp a u e, fun q => q.elim nb fun z => by subst z; rw [hp] at e; cases e⟩
/-- a new list, a new tuple -/
theorem ResB.lst {p : Addr} {vs : List V} {xs : List D} (hp : H p = none) (h : DVs K H bad vs xs) : ResB K bad H (.ref p) (upd H p (.lst vs)) (.own xs) :=
  ⟨up_new hp, p, vs, rfl, hp, upd_same, dvs_newb hp h⟩
theorem ResB.tup {p : Addr} {vs : List V} {xs : List D} (hb : ∀ a, bad a → H a ≠ none) (hp : H p = none) (h : DVs K H bad vs xs) : ResB K bad H (.ref p) (upd H p (.tup vs)) (.dat (.tuple xs)) :=
  ⟨up_new hp, .tup (.inl ⟨.inl upd_same, fun q => hb p q hp⟩) (dvs_new hp h)⟩
theorem ResB.same {d : D} (h : DV K H bad v d) : ResB K bad H v H (.dat d) := ⟨fun _ _ e => e, h⟩
theorem ResB.int {i : Int} : ResB K bad H (.int i) H (.dat (.int i)) := ⟨fun _ _ e => e, .int i⟩
theorem ResB.str {x : Str} : ResB K bad H (.str x) H (.dat (.str x)) := ⟨fun _ _ e => e, .str x⟩
theorem ResB.bl {b : Bool} : ResB K bad H (.bl b) H (.dat (.bool b)) := ⟨fun _ _ e => e, .bl b⟩
theorem DR.tupv {xs : List D} (h : DR K H bad v (.tuple xs)) : ∃ a vs, v = .ref a ∧ SqTb K H bad a vs ∧ DVs K H bad vs xs := by
  cases h with
  | dv h => cases h with | tup a b => exact ⟨_, _, rfl, a, b⟩
theorem tuple_mul1 (l : Addr) (items : Array Value) (n : Nat) (dd : Option Addr) (sl : Array (Option Value)) (u : Tok) :
    Meets (Builtin.«tuple.__mul__» ⟨[.ref l, .int 1 u], []⟩) (fun _ R s => s.heap.get? l = some { cls := .type "tuple", dict := dd, data := .seq items n, slots := sl } ∧ R (.ok (.ret (Value.ref l))) { s with toks := s.toks }) :=
  .of_wp fun prog w A R s h => by
    obtain ⟨hp, g, d, tk, os⟩ := s
    obtain ⟨hl, h⟩ := h
    have f1 := AutoSeq1.idx_int
    wp_walk using wpAny_loadPart' hl
    repeat (first
      | (refine wpAny_ite_false (by decide) ?_; wp_walk using wpAny_loadPart' hl)
      | (refine wpAny_ite_true (by simp) ?_; wp_walk using wpAny_loadPart' hl))
    exact ⟨_, rfl, h⟩
theorem op_rep1 : OpR X (binaryOp .Mult) (fun x y H Q => ∃ l xs, x = .ref l ∧ y = .int 1 ∧ SqT X.K H l xs ∧ Q (.ref l) H) := by
  intro pins s σ H x y v u Q I rx ry h
  obtain ⟨l, xs, rfl, rfl, hT, q⟩ := h
  cases rx
  obtain ⟨t, rfl⟩ := ry
  obtain ⟨its, r, ⟨⟨cls, dd, data, sl⟩, ho, hc, n, hd⟩, hs⟩ := I.tuple hT
  simp only at hc hd
  subst hc hd
  exact wpAny_binaryOp_repeat_ref (T := "tuple") (U := "int") (by decide) ⟨_, ho, rfl⟩ (fun s' => typeIs_int s' 1 t) noFill_tuple_mul F.fills_int_mul F.slot_int_rmul repeat_tuple F.slot_int_index.lookup
    (call_meets F.slot_int_rmul (typeIs_int s 1 t) F.entry_int_rmul (F.args_int_rmul_2 _ _) (int_rmul_tuple 1 t l its.toArray n dd sl)
      ⟨ho, rfl, ⟨_, ho, rfl⟩, call_meets F.slot_tuple_mul ⟨_, ho, rfl⟩ F.entry_tuple_mul (F.args_tuple_mul_2 _ _) (tuple_mul1 l its.toArray n dd sl t) ⟨ho, ⟨.ref l, H, I.tok _, rfl, q⟩⟩⟩)
theorem op_catL : OpR X (binaryOp .Add) (fun x y H Q => ∃ l b xs zs, x = .ref l ∧ y = .ref b ∧ SqL X.K H l xs ∧ SqL X.K H b zs ∧ xs.length + zs.length ≤ sizeLine ∧ ∀ p, H p = none → Q (.ref p) (upd H p (.lst (xs ++ zs)))) := by
  intro pins s σ H x y v u Q I rx ry h
  obtain ⟨l, b, xs, zs, rfl, rfl, hH, hB, hz, q⟩ := h
  cases rx
  cases ry
  obtain ⟨its, r, ⟨⟨c1, d1, t1, sl1⟩, n, ho, hc, hd, hs⟩, _⟩ := I.list hH
  obtain ⟨its2, r2, ⟨⟨c2, d2, t2, sl2⟩, n2, ho2, hc2, hd2, hs2⟩, _⟩ := I.list hB
  simp only at hc hd hs hc2 hd2 hs2
  subst hc hd hs hc2 hd2 hs2
  have l1 := r.length
  have l2 := r2.length
  refine concat_meets ⟨_, ho, rfl⟩ ⟨_, ho2, rfl⟩ noFill_list_add seq_list_add PySem.F.slot_list_add PySem.F.entry_list_add (PySem.F.args_list_add_2 _ _) (list_addW l b its.toArray its2.toArray n n2 none none sl1 sl2 (by rw [List.size_toArray, List.size_toArray]; omega)) ⟨ho, ho2, ?_⟩
  have ea : its.toArray ++ its2.toArray = (its ++ its2).toArray := by simp
  rw [ea]
  exact ⟨.ref _, _, I.lnew (t' := s.toks) (r.append r2) (by rw [List.length_append]; omega), rfl, q _ I.fresh⟩
/-- the operator of the syntax -/
def O2.op : O2 → Operator
  | .add => .Add | .sub => .Sub | .mul => .Mult | .fdiv => .FloorDiv | .mod => .Mod | .pow => .Pow
theorem DVs.ne_nil {vs : List V} {xs : List D} (h : DVs K H bad vs xs) : vs = [] ↔ xs = [] := by
  cases h with
  | nil => simp
  | cons _ _ => simp
theorem DVs.rep {vs : List V} {xs : List D} (h : DVs K H bad vs xs) : ∀ n : Nat, DVs K H bad (List.replicate n vs).flatten (List.replicate n xs).flatten
  | 0 => .nil
  | n + 1 => by
    rw [List.replicate_succ, List.replicate_succ, List.flatten_cons, List.flatten_cons]
    exact h.append (DVs.rep h n)
theorem op2_ok (o : O2) : OpR X (binaryOp o.op) (rD2 X.K (op2D o)) := by
  intro pins s σ H x y v u Q I rx ry h
  obtain ⟨bad, dx, dy, k, hx, hy, hb, g, q⟩ := h
  cases o with
  | add =>
    cases dx <;> cases dy <;> simp only [op2D] at g
    · obtain rfl := hx.int; obtain rfl := hy.int
      exact op_add pins s σ H _ _ v u Q I rx ry ⟨_, _, rfl, rfl, q _ _ _ .int g⟩
    · obtain rfl := hx.str; obtain rfl := hy.str
      exact op_add_str pins s σ H _ _ v u Q I rx ry ⟨_, _, rfl, rfl, g.1, q _ _ _ .str g.2⟩
    · obtain ⟨a, vs, rfl, h1, h2⟩ := hx.list
      obtain ⟨b, ws, rfl, h3, h4⟩ := hy.list
      exact op_catL pins s σ H _ _ v u Q I rx ry ⟨_, _, _, _, rfl, rfl, h1, h3, by rw [h2.length, h4.length]; exact g.1, fun p hp => q _ _ _ (.lst hp (h2.append h4)) g.2⟩
    · obtain ⟨a, vs, rfl, h1, h2⟩ := hx.tupv
      obtain ⟨b, ws, rfl, h3, h4⟩ := hy.tupv
      refine op_catA pins s σ H _ _ v u Q I rx ry ⟨_, _, _, _, rfl, rfl, h1.sq, h3.sq, by rw [h2.length, h4.length]; exact g.1, fun e => ?_, fun _ e => ?_, fun _ _ p hp => q _ _ _ (.tup hb hp (h2.append h4)) g.2⟩
      · have e' := h2.ne_nil.mp e
        subst e'
        exact q _ _ _ (.same (.tup h3 h4)) (by simpa using g.2)
      · have e' := h4.ne_nil.mp e
        subst e'
        exact q _ _ _ (.same (.tup h1 h2)) (by simpa using g.2)
  | sub =>
    cases dx <;> cases dy <;> simp only [op2D] at g
    obtain rfl := hx.int; obtain rfl := hy.int
    exact op_sub pins s σ H _ _ v u Q I rx ry ⟨_, _, rfl, rfl, q _ _ _ .int g⟩
  | mul =>
    cases dx <;> cases dy <;> simp only [op2D] at g
    · obtain rfl := hx.int; obtain rfl := hy.int
      exact op_mulX pins s σ H _ _ v u Q I rx ry ⟨_, _, rfl, rfl, g.1, q _ _ _ .int g.2⟩
    · obtain ⟨a, vs, rfl, h1, h2⟩ := hx.tupv
      obtain rfl := hy.int
      by_cases hj : ‹Int› = 1
      · subst hj
        exact op_rep1 pins s σ H _ _ v u Q I rx ry ⟨_, _, rfl, rfl, h1.sq, q _ _ _ (.same (.tup h1 h2)) (by simpa using g.2.2.2.2)⟩
      refine op_repT pins s σ H _ _ v u Q I rx ry ⟨_, _, _, rfl, rfl, h1.sq, fun e => g.2.2.1 (h2.ne_nil.mp e), by have := g.1; omega, g.2.1, by rw [h2.length]; exact g.2.2.2.1, fun p hp => q _ _ _ (.tup hb hp (h2.rep _)) g.2.2.2.2⟩
  | fdiv =>
    cases dx <;> cases dy <;> simp only [op2D] at g
    obtain rfl := hx.int; obtain rfl := hy.int
    exact op_fdivW pins s σ H _ _ v u Q I rx ry ⟨_, _, rfl, rfl, g.1, q _ _ _ .int g.2⟩
  | mod =>
    cases dx <;> cases dy <;> simp only [op2D] at g
    obtain rfl := hx.int; obtain rfl := hy.int
    exact op_mod pins s σ H _ _ v u Q I rx ry ⟨_, _, rfl, rfl, g.1, q _ _ _ .int g.2⟩
  | pow =>
    cases dx <;> cases dy <;> simp only [op2D] at g
    obtain rfl := hx.int; obtain rfl := hy.int
    exact op_pow pins s σ H _ _ v u Q I rx ry ⟨_, _, rfl, rfl, g.1, q _ _ _ .int g.2⟩
end
end DL
/-! DL5: comparisons, places, slices, built-ins. -/
namespace DL
open PySem PySem.Spec PyProof.Rows L2
def rC2 (K : PySem.W.Frag) (g : D → D → (Bool → Prop) → Prop) : R2 := fun x y H Q => ∃ bad dx dy k, DR K H bad x dx ∧ DR K H bad y dy ∧ g dx dy k ∧ ∀ b, k b → Q (.bl b) H
def C2.op : C2 → CmpOp
  | .lt => .Lt | .le => .LtE | .gt => .Gt | .ge => .GtE | .eq => .Eq | .ne => .NotEq | .isin => .In | .notin => .NotIn
section
variable {X : Cx} {K : PySem.W.Frag} {F : Addr → Prop} {bad : Addr → Prop} {H H' : Hp} {σ : St} {ρ : Rho} {v : V} {r : Rs}
theorem room_in {d : PyData} {A : Around} {n : Nat} (sd : SeqAt.shaped d = true) (hu : A.units + 65 < cLine) : A.units + 1 + min n d.depth < cLine := by
  have := SeqAt.depth_of_shaped sd
  omega
theorem cmp_ok (hu : X.A.units + 65 < cLine) (o : C2) : OpR X (compareOp o.op) (rC2 X.K (cmpD o)) := by
  have hu' : X.A.units + 64 < cLine := by omega
  intro pins s σ H x y v u Q I rx ry h
  obtain ⟨bad, dx, dy, k, hx, hy, g, q⟩ := h
  cases o with
  | lt =>
    cases dx <;> cases dy <;> simp only [cmpD] at g
    obtain rfl := hx.int; obtain rfl := hy.int
    exact op_lt pins s σ H _ _ v u Q I rx ry ⟨_, _, rfl, rfl, q _ g⟩
  | le =>
    cases dx <;> cases dy <;> simp only [cmpD] at g
    obtain rfl := hx.int; obtain rfl := hy.int
    exact op_le pins s σ H _ _ v u Q I rx ry ⟨_, _, rfl, rfl, q _ g⟩
  | gt =>
    cases dx <;> cases dy <;> simp only [cmpD] at g
    obtain rfl := hx.int; obtain rfl := hy.int
    exact op_gt pins s σ H _ _ v u Q I rx ry ⟨_, _, rfl, rfl, q _ g⟩
  | ge =>
    cases dx <;> cases dy <;> simp only [cmpD] at g
    obtain rfl := hx.int; obtain rfl := hy.int
    exact op_ge pins s σ H _ _ v u Q I rx ry ⟨_, _, rfl, rfl, q _ g⟩
  | eq =>
    have g' : shp dx ∧ shp dy ∧ k (PyData.eqv dx dy) := by cases dx <;> exact g
    exact op_eqD hu' pins s σ H _ _ v u Q I rx ry ⟨dx, dy, hx.dp, hy.dp, g'.1, g'.2.1, q _ g'.2.2⟩
  | ne =>
    have g' : shp dx ∧ shp dy ∧ k (!PyData.eqv dx dy) := by cases dx <;> exact g
    exact op_neD hu' pins s σ H _ _ v u Q I rx ry ⟨dx, dy, hx.dp, hy.dp, g'.1, g'.2.1, q _ g'.2.2⟩
  | isin =>
    obtain ⟨as, r1⟩ := Dp.reads I dx x v hx.dp rx
    obtain ⟨bs, r2⟩ := Dp.reads I dy y u hy.dp ry
    cases dy with
    | list ys =>
      have g' : shp dx ∧ shp (.list ys) ∧ k (inD dx ys) := by cases dx <;> exact g
      exact SeqAt.in_list_reads r2 r1 (SeqAt.canLay_of_shaped g'.2.1) (SeqAt.canLay_of_shaped g'.1) (room_in g'.1 hu) ⟨.bl _, H, I, rfl, q _ g'.2.2⟩
    | tuple ys =>
      have g' : shp dx ∧ shp (.tuple ys) ∧ k (inD dx ys) := by cases dx <;> exact g
      exact SeqAt.in_tuple_reads r2 r1 (SeqAt.canLay_of_shaped g'.2.1) (SeqAt.canLay_of_shaped g'.1) (room_in g'.1 hu) ⟨.bl _, H, I, rfl, q _ g'.2.2⟩
    | _ => cases dx <;> exact g.elim
  | notin =>
    obtain ⟨as, r1⟩ := Dp.reads I dx x v hx.dp rx
    obtain ⟨bs, r2⟩ := Dp.reads I dy y u hy.dp ry
    cases dy with
    | list ys =>
      have g' : shp dx ∧ shp (.list ys) ∧ k (!inD dx ys) := by cases dx <;> exact g
      exact SeqAt.notIn_list_reads r2 r1 (SeqAt.canLay_of_shaped g'.2.1) (SeqAt.canLay_of_shaped g'.1) (room_in g'.1 hu) ⟨.bl _, H, I, rfl, q _ g'.2.2⟩
    | tuple ys =>
      have g' : shp dx ∧ shp (.tuple ys) ∧ k (!inD dx ys) := by cases dx <;> exact g
      exact SeqAt.notIn_tuple_reads r2 r1 (SeqAt.canLay_of_shaped g'.2.1) (SeqAt.canLay_of_shaped g'.1) (room_in g'.1 hu) ⟨.bl _, H, I, rfl, q _ g'.2.2⟩
    | _ => cases dx <;> exact g.elim
/-! ### places -/
def rI2 (K : PySem.W.Frag) : R2 := fun x y H Q => ∃ bad dx dy k, DR K H bad x dx ∧ DR K H bad y dy ∧ idxD dx dy k ∧ ∀ v d, DV K H bad v d → k d → Q v H
theorem DVs.atI {vs : List V} {xs : List D} {i : Int} {d : D} (h : DVs K H bad vs xs) (e : L2.atI xs i = some d) : ∃ v, L2.atI vs i = some v ∧ DV K H bad v d := by
  unfold L2.atI at e ⊢
  rw [h.length]
  cases q : ixN xs.length i with
  | none => rw [q] at e; cases e
  | some j =>
    rw [q] at e
    exact h.get (i := j) e
theorem idx_ok : IxR X (rI2 X.K) := by
  intro va sl pins s σ H x y v u Q I rx ry h hs
  obtain ⟨bad, dx, dy, k, hx, hy, g, q⟩ := h
  cases dx <;> cases dy <;> simp only [idxD] at g
  · obtain ⟨a, vs, rfl, h1, h2⟩ := hx.list
    obtain rfl := hy.int
    split at g
    · rename_i d e
      obtain ⟨w, e1, e2⟩ := h2.atI e
      exact ix_list va sl pins s σ H _ _ v u Q I rx ry ⟨_, _, _, _, rfl, rfl, h1, e1, q _ _ e2 g⟩ hs
    · exact g.elim
  · obtain ⟨a, vs, rfl, h1, h2⟩ := hx.tup
    obtain rfl := hy.int
    split at g
    · rename_i d e
      obtain ⟨w, e1, e2⟩ := h2.atI e
      exact ix_tup va sl pins s σ H _ _ v u Q I rx ry ⟨_, _, _, _, rfl, rfl, h1, e1, q _ _ e2 g⟩ hs
    · exact g.elim
/-! ### slices -/
theorem DVs.cut {vs : List V} {xs : List D} (h : DVs K H bad vs xs) (lo hi : Option Int) : DVs K H bad (cutV vs lo hi) (cutD xs lo hi) := by
  unfold cutV cutD
  rw [h.length]
  exact (h.drop _).take _
def rSl (K : PySem.W.Frag) : V → Option Int → Option Int → Hp → VK → Prop := fun x lo hi H Q => ∃ bad dx k, DR K H bad x dx ∧ (∀ a, bad a → H a ≠ none) ∧ slcD dx lo hi k ∧ ∀ v H' r, ResB K bad H v H' r → k r → Q v H'
theorem slc_ok : SlR X (rSl X.K) := by
  intro pins s σ H x v vl vu lo hi sl Q I rx hs pl pu h
  obtain ⟨bad, dx, k, hx, hb, g, q⟩ := h
  cases dx <;> simp only [slcD] at g
  · obtain ⟨a, vs, rfl, h1, h2⟩ := hx.list
    exact sl_list pins s σ H _ v vl vu lo hi sl Q I rx hs pl pu ⟨_, _, rfl, h1, fun p hp => q _ _ _ (.lst hp (h2.cut lo hi)) g⟩
  · obtain ⟨a, vs, rfl, h1, h2⟩ := hx.tupv
    refine sl_tupA pins s σ H _ v vl vu lo hi sl Q I rx hs pl pu ⟨_, _, rfl, h1.sq, fun e => ?_, fun _ p hp => q _ _ _ (.tup hb hp (h2.cut lo hi)) g⟩
    refine q _ _ (.dat _) (.same ?_) g
    rename_i xs
    have hw : cutD xs lo hi = xs := by
      unfold cutD
      rw [h2.length] at e
      rw [e.1, e.2]
      simp
    rw [hw]
    exact .tup h1 h2
end
end DL
/-! DL6: built-ins. -/
namespace DL
open PySem PySem.Spec PyProof.Rows L2
inductive DRs (K : PySem.W.Frag) (H : Hp) (bad : Addr → Prop) : List V → List D → Prop
  | nil : DRs K H bad [] []
  | cons {v d vs ds} : DR K H bad v d → DRs K H bad vs ds → DRs K H bad (v :: vs) (d :: ds)
def rBi (K : PySem.W.Frag) (g : List D → KR → Prop) : List V → Hp → VK → Prop := fun xs H Q => ∃ bad ds k, DRs K H bad xs ds ∧ (∀ a, bad a → H a ≠ none) ∧ g ds k ∧ ∀ v H' r, ResB K bad H v H' r → k r → Q v H'
section
variable {X : Cx} {K : PySem.W.Frag} {F : Addr → Prop} {bad : Addr → Prop} {H H' : Hp} {σ : St} {ρ : Rho} {v : V} {r : Rs}
theorem DRs.one {vs : List V} {d : D} (h : DRs K H bad vs [d]) : ∃ v, vs = [v] ∧ DR K H bad v d := by
  cases h with | cons a b => cases b; exact ⟨_, rfl, a⟩
theorem DRs.two {vs : List V} {d e : D} (h : DRs K H bad vs [d, e]) : ∃ v w, vs = [v, w] ∧ DR K H bad v d ∧ DR K H bad w e := by
  cases h with | cons a b => cases b with | cons c d => cases d; exact ⟨_, _, rfl, a, c⟩
theorem intsD_map : ∀ {xs : List D} {ns : List Int}, intsD xs = some ns → xs = ns.map .int
  | [], _, h => by cases h; rfl
  | .int i :: r, ns, h => by
    simp only [intsD, Option.map_eq_some_iff] at h
    obtain ⟨m, h1, rfl⟩ := h
    rw [intsD_map h1]; rfl
  | .none :: _, _, h => by simp [intsD] at h
  | .bool _ :: _, _, h => by simp [intsD] at h
  | .str _ :: _, _, h => by simp [intsD] at h
  | .list _ :: _, _, h => by simp [intsD] at h
  | .tuple _ :: _, _, h => by simp [intsD] at h
  | .dict _ :: _, _, h => by simp [intsD] at h
theorem boolsD_map : ∀ {xs : List D} {ns : List Bool}, boolsD xs = some ns → xs = ns.map .bool
  | [], _, h => by cases h; rfl
  | .bool i :: r, ns, h => by
    simp only [boolsD, Option.map_eq_some_iff] at h
    obtain ⟨m, h1, rfl⟩ := h
    rw [boolsD_map h1]; rfl
  | .none :: _, _, h => by simp [boolsD] at h
  | .int _ :: _, _, h => by simp [boolsD] at h
  | .str _ :: _, _, h => by simp [boolsD] at h
  | .list _ :: _, _, h => by simp [boolsD] at h
  | .tuple _ :: _, _, h => by simp [boolsD] at h
  | .dict _ :: _, _, h => by simp [boolsD] at h
theorem DVs.bools : ∀ {ns : List Bool} {vs : List V}, DVs K H bad vs (ns.map .bool) → vs = ns.map V.bl
  | [], _, h => by cases h; rfl
  | n :: ns, _, h => by cases h with | cons a r => cases a; simp [DVs.bools r]
theorem b_len : CallR X (.builtin "len") (rBi X.K bLen) := by
  intro pins s σ H vs us Q I r h
  obtain ⟨bad, ds, k, hd, hb, g, q⟩ := h
  unfold bLen at g
  split at g
  · obtain ⟨v, rfl, h1⟩ := hd.one
    obtain ⟨a, ws, rfl, h2, h3⟩ := h1.list
    exact call_len_seq pins s σ H _ us Q I r ⟨a, ws, rfl, .inl h2, by rw [h3.length]; exact q _ _ _ .int g⟩
  · obtain ⟨v, rfl, h1⟩ := hd.one
    obtain ⟨a, ws, rfl, h2, h3⟩ := h1.tup
    exact call_len_seq pins s σ H _ us Q I r ⟨a, ws, rfl, .inr h2, by rw [h3.length]; exact q _ _ _ .int g⟩
  · exact g.elim
theorem b_tuple : CallR X (.type "tuple") (rBi X.K bTuple) := by
  intro pins s σ H vs us Q I r h
  obtain ⟨bad, ds, k, hd, hb, g, q⟩ := h
  unfold bTuple at g
  split at g
  · obtain ⟨v, rfl, h1⟩ := hd.one
    obtain ⟨a, ws, rfl, h2, h3⟩ := h1.list
    exact call_tuple_of pins s σ H _ us Q I r ⟨a, ws, rfl, .inl ⟨h2, fun p hp => q _ _ _ (.tup hb hp h3) g⟩⟩
  · obtain ⟨v, rfl, h1⟩ := hd.one
    obtain ⟨a, ws, rfl, h2, h3⟩ := h1.tupv
    exact call_tuple_of pins s σ H _ us Q I r ⟨a, ws, rfl, .inr ⟨h2.sq, q _ _ _ (.same (.tup h2 h3)) g⟩⟩
  · exact g.elim
theorem b_list : CallR X (.type "list") (rBi X.K bList) := by
  intro pins s σ H vs us Q I r h
  obtain ⟨bad, ds, k, hd, hb, g, q⟩ := h
  unfold bList at g
  split at g
  · obtain ⟨v, rfl, h1⟩ := hd.one
    obtain ⟨a, ws, rfl, h2, h3⟩ := h1.list
    exact call_list_of pins s σ H _ us Q I r ⟨a, ws, rfl, .inl h2, fun p hp => q _ _ _ (.lst hp h3) g⟩
  · obtain ⟨v, rfl, h1⟩ := hd.one
    obtain ⟨a, ws, rfl, h2, h3⟩ := h1.tup
    exact call_list_of pins s σ H _ us Q I r ⟨a, ws, rfl, .inr h2, fun p hp => q _ _ _ (.lst hp h3) g⟩
  · exact g.elim
theorem b_abs : CallR X (.builtin "abs") (rBi X.K bAbs) := by
  intro pins s σ H vs us Q I r h
  obtain ⟨bad, ds, k, hd, hb, g, q⟩ := h
  unfold bAbs at g
  split at g
  · obtain ⟨v, rfl, h1⟩ := hd.one
    obtain rfl := h1.int
    exact call_abs pins s σ H _ us Q I r ⟨_, rfl, q _ _ _ .int g⟩
  · exact g.elim
theorem b_int : CallR X (.type "int") (rBi X.K bInt) := by
  intro pins s σ H vs us Q I r h
  obtain ⟨bad, ds, k, hd, hb, g, q⟩ := h
  unfold bInt at g
  split at g
  · obtain ⟨v, rfl, h1⟩ := hd.one
    obtain rfl := h1.int
    exact call_int1 pins s σ H _ us Q I r (.inl ⟨_, rfl, q _ _ _ .int g⟩)
  · obtain ⟨v, rfl, h1⟩ := hd.one
    obtain rfl := h1.bl
    exact call_int1 pins s σ H _ us Q I r (.inr ⟨_, rfl, q _ _ _ .int g⟩)
  · exact g.elim
theorem b_divmod : CallR X (.builtin "divmod") (rBi X.K bDivmod) := by
  intro pins s σ H vs us Q I r h
  obtain ⟨bad, ds, k, hd, hb, g, q⟩ := h
  unfold bDivmod at g
  split at g
  · obtain ⟨v, w, rfl, h1, h2⟩ := hd.two
    obtain rfl := h1.int
    obtain rfl := h2.int
    exact call_divmod pins s σ H _ us Q I r ⟨_, _, rfl, g.1, fun p hp => q _ _ _ (.tup hb hp (.cons (.int _) (.cons (.int _) .nil))) g.2⟩
  · exact g.elim
theorem b_gcd : CallR X (.builtin "math.gcd") (rBi X.K bGcd) := by
  intro pins s σ H vs us Q I r h
  obtain ⟨bad, ds, k, hd, hb, g, q⟩ := h
  unfold bGcd at g
  split at g
  · obtain ⟨v, w, rfl, h1, h2⟩ := hd.two
    obtain rfl := h1.int
    obtain rfl := h2.int
    exact cr_gcd pins s σ H _ us Q I r ⟨_, _, rfl, q _ _ _ .int g⟩
  · exact g.elim
theorem b_sum (hc : X.calm = true) : CallR X (.builtin "sum") (rBi X.K (bInts fun ns k => k (.int ns.sum))) := by
  intro pins s σ H vs us Q I r h
  obtain ⟨bad, ds, k, hd, hb, g, q⟩ := h
  unfold bInts at g
  split at g
  · split at g
    · rename_i ns e
      obtain rfl := intsD_map e
      obtain ⟨v, rfl, h1⟩ := hd.one
      obtain ⟨a, ws, rfl, h2, h3⟩ := h1.list
      obtain rfl := h3.ints
      exact cr_sum hc pins s σ H _ us Q I r ⟨a, ns, rfl, h2, q _ _ _ .int g⟩
    · exact g.elim
  · exact g.elim
theorem b_all (hc : X.calm = true) : CallR X (.builtin "all") (rBi X.K (bBools fun bs => bs.all id)) := by
  intro pins s σ H vs us Q I r h
  obtain ⟨bad, ds, k, hd, hb, g, q⟩ := h
  unfold bBools at g
  split at g
  · split at g
    · rename_i ns e
      obtain rfl := boolsD_map e
      obtain ⟨v, rfl, h1⟩ := hd.one
      obtain ⟨a, ws, rfl, h2, h3⟩ := h1.list
      obtain rfl := h3.bools
      exact cr_all hc pins s σ H _ us Q I r ⟨a, ns, rfl, h2, q _ _ _ .bl g⟩
    · exact g.elim
  · exact g.elim
theorem b_any (hc : X.calm = true) : CallR X (.builtin "any") (rBi X.K (bBools fun bs => bs.any id)) := by
  intro pins s σ H vs us Q I r h
  obtain ⟨bad, ds, k, hd, hb, g, q⟩ := h
  unfold bBools at g
  split at g
  · split at g
    · rename_i ns e
      obtain rfl := boolsD_map e
      obtain ⟨v, rfl, h1⟩ := hd.one
      obtain ⟨a, ws, rfl, h2, h3⟩ := h1.list
      obtain rfl := h3.bools
      exact cr_any hc pins s σ H _ us Q I r ⟨a, ns, rfl, h2, q _ _ _ .bl g⟩
    · exact g.elim
  · exact g.elim
theorem b_max (hc : X.calm = true) : CallR X (.builtin "max") (rBi X.K bMax) := by
  intro pins s σ H vs us Q I r h
  obtain ⟨bad, ds, k, hd, hb, g, q⟩ := h
  unfold bMax at g
  split at g
  · obtain ⟨v, w, rfl, h1, h2⟩ := hd.two
    obtain rfl := h1.int
    obtain rfl := h2.int
    exact call_max2 hc pins s σ H _ us Q I r ⟨_, _, rfl, q _ _ _ .int g⟩
  · split at g
    · rename_i ns e
      obtain ⟨v, rfl, h1⟩ := hd.one
      obtain ⟨a, ws, rfl, h2, h3⟩ := h1.list
      obtain rfl := intsD_map e
      obtain rfl := h3.ints
      refine cr_max hc pins s σ H _ us Q I r ⟨a, ns, rfl, h2, ?_, fun m m1 m2 => q _ _ _ .int (g.2 m m1 m2)⟩
      cases ns with
      | nil => exact (g.1 rfl).elim
      | cons _ _ => simp
    · exact g.elim
  · exact g.elim
theorem b_min (hc : X.calm = true) : CallR X (.builtin "min") (rBi X.K bMin) := by
  intro pins s σ H vs us Q I r h
  obtain ⟨bad, ds, k, hd, hb, g, q⟩ := h
  unfold bMin at g
  split at g
  · obtain ⟨v, w, rfl, h1, h2⟩ := hd.two
    obtain rfl := h1.int
    obtain rfl := h2.int
    exact call_min2 hc pins s σ H _ us Q I r ⟨_, _, rfl, q _ _ _ .int g⟩
  · split at g
    · rename_i ns e
      obtain ⟨v, rfl, h1⟩ := hd.one
      obtain ⟨a, ws, rfl, h2, h3⟩ := h1.list
      obtain rfl := intsD_map e
      obtain rfl := h3.ints
      refine cr_min hc pins s σ H _ us Q I r ⟨a, ns, rfl, h2, ?_, fun m m1 m2 => q _ _ _ .int (g.2 m m1 m2)⟩
      cases ns with
      | nil => exact (g.1 rfl).elim
      | cons _ _ => simp
    · exact g.elim
  · exact g.elim
theorem DVs.perm {vs ws : List V} (h : vs.Perm ws) : ∀ {xs : List D}, DVs K H bad ws xs → ∃ ys : List D, ys.Perm xs ∧ DVs K H bad vs ys := by
  induction h with
  | nil => intro xs h; exact ⟨xs, .refl _, h⟩
  | cons v _ ih =>
    intro xs h
    cases h with
    | cons a r =>
      obtain ⟨ys, p, q⟩ := ih r
      exact ⟨_, p.cons _, .cons a q⟩
  | swap v w l =>
    intro xs h
    cases h with
    | cons a r =>
      cases r with
      | cons b r => exact ⟨_, List.Perm.swap .., .cons b (.cons a r)⟩
  | trans _ _ ih1 ih2 =>
    intro xs h
    obtain ⟨ys, p, q⟩ := ih2 h
    obtain ⟨zs, p2, q2⟩ := ih1 q
    exact ⟨zs, p2.trans p, q2⟩
theorem DVs.mem {xs : List D} {vs : List V} (h : DVs K H bad vs xs) : ∀ {v : V}, v ∈ vs → ∃ d, d ∈ xs ∧ DV K H bad v d := fun {v} m => by
  obtain ⟨i, hi⟩ := List.getElem?_of_mem m
  obtain ⟨d, h1, h2⟩ := h.get' hi
  exact ⟨d, List.mem_of_getElem? h1, h2⟩
theorem DV.tupI {v : V} {ns : List Int} (h : DV K H bad v (.tuple (ns.map .int))) : TupI K H v ns := by
  cases h with
  | tup a b =>
    have e := DVs.ints b
    subst e
    exact ⟨_, rfl, a.sq⟩
theorem DVs.pairwise {R : V → V → Prop} {S : D → D → Prop} (f : ∀ v w x y, DV K H bad v x → DV K H bad w y → R v w → S x y) : ∀ {vs : List V} {xs : List D}, DVs K H bad vs xs → vs.Pairwise R → xs.Pairwise S
  | _, [], h, _ => .nil
  | _, x :: xs, h, p => by
    cases h with
    | cons a r =>
      cases p with
      | cons p1 p2 =>
        refine .cons (fun y hy => ?_) (DVs.pairwise f r p2)
        obtain ⟨i, hi⟩ := List.getElem?_of_mem hy
        obtain ⟨w, h1, h2⟩ := r.get hi
        exact f _ _ _ _ a h2 (p1 w (List.mem_of_getElem? h1))
theorem b_sorted : CallR X (.builtin "sorted") (rBi X.K bSorted) := by
  intro pins s σ H vs us Q I r h
  obtain ⟨bad, ds, k, hd, hb, g, q⟩ := h
  unfold bSorted at g
  split at g
  · split at g
    · rename_i ns e
      obtain rfl := intsD_map e
      obtain ⟨v, rfl, h1⟩ := hd.one
      obtain ⟨a, ws, rfl, h2, h3⟩ := h1.list
      obtain rfl := h3.ints
      exact cr_sorted pins s σ H _ us Q I r ⟨a, ns, rfl, h2, g.1, fun ns' p h4 h5 hp => q _ _ _ (.lst hp (DVs.of_ints ns')) (g.2 ns' h4 h5)⟩
    · obtain ⟨d, B, hd1, h64, hx, g2⟩ := g
      obtain ⟨v, rfl, h1⟩ := hd.one
      obtain ⟨a, ws, rfl, h2, h3⟩ := h1.list
      refine cr_sortT (d := d) (B := B) hd1 pins s σ H _ us Q I r ⟨a, ws, rfl, h2, by rw [h3.length]; exact h64, fun x hm => ?_, fun ys p hp hw hn => ?_⟩
      · obtain ⟨y, m, dv⟩ := h3.mem hm
        obtain ⟨ns, rfl, h4, h5⟩ := hx y m
        exact ⟨ns, dv.tupI, h4, h5⟩
      · obtain ⟨xs', p', dv'⟩ := DVs.perm hp h3
        refine q _ _ _ (.lst hn dv') (g2 xs' p' (DVs.pairwise (fun v w x y d1 d2 hr n m e1 e2 => ?_) dv' hw))
        subst e1 e2
        exact hr n m d1.tupI d2.tupI
  · exact g.elim
/-! isinstance -/
def rIs (K : PySem.W.Frag) (T : String) (f : D → Bool) : List V → Hp → VK → Prop := fun xs H Q => ∃ bad v d, xs = [v, .ty T] ∧ DR K H bad v d ∧ Q (.bl (f d)) H
/-- the built-in type of a datum -/
def tyD : D → String
  | .none => "NoneType" | .bool _ => "bool" | .int _ => "int" | .str _ => "str" | .list _ => "list" | .tuple _ => "tuple" | .dict _ => "dict"
theorem DR.ty {d : D} (h : DR K H bad v d) : TyX K H v (.type (tyD d)) := by
  cases d with
  | none => obtain rfl := h.non; exact .base .non
  | bool b => obtain rfl := h.bl; exact .base (.bl _)
  | int i => obtain rfl := h.int; exact .base (.int _)
  | str x => obtain rfl := h.str; exact .base (.str _)
  | list xs =>
    obtain ⟨a, vs, rfl, (h1 | ⟨o, h1⟩) | ⟨o, its, n, h1, h3, _⟩, h2⟩ := h.list
    · exact .base (.lst h1)
    · exact .base (.frz h1)
    · exact .kList h1 h3
  | tuple xs =>
    obtain ⟨a, vs, rfl, (h1 | ⟨o, h1⟩) | ⟨o, its, n, h1, h3, _⟩, h2⟩ := h.tup
    · exact .base (.tup h1)
    · exact .fTuple h1
    · exact .kTuple h1 h3
  | dict kvs => cases h with | dv h => cases h
theorem b_is {T : String} {f : D → Bool} (h : ∀ d, kitB (tyD d) T = some (f d)) : CallR X (.builtin "isinstance") (rIs X.K T f) := by
  intro pins s σ H vs us Q I r ⟨bad, v, d, e, hd, q⟩
  subst e
  exact call_isi pins s σ H _ us Q I r ⟨v, _, _, _, _, rfl, .ty T, hd.ty, kit_ty (h d), q⟩
theorem k_int : ∀ d, kitB (tyD d) "int" = some (isIntD d) := by intro d; cases d <;> (simp only [tyD, isIntD]; decide +kernel)
theorem k_bool : ∀ d, kitB (tyD d) "bool" = some (isBoolD d) := by intro d; cases d <;> (simp only [tyD, isBoolD]; decide +kernel)
theorem k_tuple : ∀ d, kitB (tyD d) "tuple" = some (isTupleD d) := by intro d; cases d <;> (simp only [tyD, isTupleD]; decide +kernel)
theorem k_list : ∀ d, kitB (tyD d) "list" = some (isListD d) := by intro d; cases d <;> (simp only [tyD, isListD]; decide +kernel)
theorem k_str : ∀ d, kitB (tyD d) "str" = some (isStrD d) := by intro d; cases d <;> (simp only [tyD, isStrD]; decide +kernel)
/-! repr -/
mutual
theorem nodict : ∀ (d : D) {v : V}, DR K H bad v d → d.hasDict = false
  | .none, _, _ => rfl
  | .bool _, _, _ => rfl
  | .int _, _, _ => rfl
  | .str _, _, _ => rfl
  | .list xs, _, h => by obtain ⟨a, vs, rfl, _, h2⟩ := h.list; simp only [PyData.hasDict]; exact nodicts xs h2
  | .tuple xs, _, h => by obtain ⟨a, vs, rfl, _, h2⟩ := h.tup; simp only [PyData.hasDict]; exact nodicts xs h2
  | .dict _, _, h => by cases h with | dv h => cases h
theorem nodicts : ∀ (ds : List D) {vs : List V}, DVs K H bad vs ds → PyData.hasDictAll ds = false
  | [], _, _ => rfl
  | d :: ds, _, h => by cases h with | cons a r => simp only [PyData.hasDictAll, nodict d (.dv a), nodicts ds r, Bool.or_self]
end
theorem b_repr (hg : X.A.guards = some []) (hu : X.A.units + 100 < cLine) : CallR X (.builtin "repr") (rBi X.K bRepr) := by
  intro pins s σ H vs us Q I r h
  obtain ⟨bad, ds, k, hd, hb, g, q⟩ := h
  unfold bRepr at g
  split at g
  · rename_i d
    obtain ⟨v, rfl, h1⟩ := hd.one
    obtain ⟨⟨g1, g2, g3⟩, g4⟩ := g
    obtain ⟨u, rfl, ru⟩ := vals1 r
    have fin : ∀ (h' : Heap) (w : Tok) (tk : Nat), (∀ b o, s.heap.get? b = some o → h'.get? b = some o) → EP X pins σ Q (.str d.shown w) { s with heap := h', toks := tk } := fun h' w tk hk =>
      ⟨.str d.shown, H, I.kept hk, ⟨_, rfl⟩, q _ _ _ .str g4⟩
    have big : ∀ (a : Addr), v = .ref a → wpAny (model X.prog X.w) X.A (call (.builtin "repr") [u]) (EP X pins σ Q) X.xe s := fun a e => by
      subst e
      obtain ⟨as, rr⟩ := Dp.reads I d _ u h1.dp ru
      obtain rfl := ru
      exact repr_of_reads' rr g1 (fun z => by rw [nodict d h1] at z; cases z) hg (by omega) (fun _ _ e => e) fin g3
    cases d with
    | none =>
      obtain rfl := h1.non
      obtain rfl := ru
      exact PySem.P.repr_of_none (fin s.heap _ _ fun _ _ e => e)
    | bool b =>
      obtain rfl := h1.bl
      obtain rfl := ru
      exact PySem.P.repr_of_bool (fin s.heap _ _ fun _ _ e => e)
    | int i =>
      obtain rfl := h1.int
      obtain ⟨t, rfl⟩ := ru
      exact PySem.P.repr_of_int (of_decide_eq_true g1) (fin s.heap _ _ fun _ _ e => e)
    | str x =>
      obtain rfl := h1.str
      obtain ⟨t, rfl⟩ := ru
      exact PySem.P.repr_of_str (fin s.heap _ _ fun _ _ e => e) g3
    | list xs => obtain ⟨a, vs, e, _⟩ := h1.list; exact big a e
    | tuple xs => obtain ⟨a, vs, e, _⟩ := h1.tup; exact big a e
    | dict kvs => cases h1 with | dv h => cases h
  · exact g.elim
end
end DL
/-! DL7: expressions. -/
namespace DL
open PySem PySem.Spec PyProof.Rows L2
def FL (F : Addr → Prop) (as : List Addr) (a : Addr) : Prop := F a ∨ a ∈ as
/-- results in hand: as, the lists that they alone hold -/
inductive Hs (K : PySem.W.Frag) (H : Hp) (bad : Addr → Prop) (σ : St) : List V → List Rs → List Addr → Prop
  | nil : Hs K H bad σ [] [] []
  | val {v r vs rs as} : R1 K H bad σ v r → (∀ xs, r ≠ .own xs) → Hs K H bad σ vs rs as → Hs K H bad σ (v :: vs) (r :: rs) as
  | own {a ws xs vs rs as} : H a = some (.lst ws) → DVs K H bad ws xs → a ∉ as → Hs K H bad σ vs rs as → Hs K H bad σ (.ref a :: vs) (.own xs :: rs) (a :: as)
def tDH (c : Cf) (n : Nat) (w : DTR) : TA := fun σ H Q => ∃ F ρ E Qd, Rp c.K c.IO F H σ ρ ∧ w E ρ Qd ∧ XC c F E σ ρ H ∧
  ∀ vs H' ρ' rs as, vs.length = n → Nx σ ρ H σ ρ' H' → Rp c.K c.IO (FL F as) H' σ ρ' → Hs c.K H' (Bad (FL F as) σ ρ') σ vs rs as → (∀ a ∈ as, ¬ F a ∧ H a = none) → Qd rs ρ' → Q vs H'
section
variable {X : Cx} {c : Cf} {K : PySem.W.Frag} {IO : Nat → Option Addr} {F G : Addr → Prop} {bad : Addr → Prop} {H H1 H2 H' : Hp} {σ : St} {ρ ρ1 ρ2 : Rho} {v : V} {r : Rs} {E : Xn → Prop}
  {e a b : Expr} {es : List Expr} {pos : Pos} {w wa wb wc : DTE}
theorem XC.more (h : XC c F E σ ρ H) (s : ∀ a, F a → G a) : XC c G E σ ρ H := fun cls dx H' x k ok e => h cls dx H' x k (by
  obtain ⟨C, f, h1, h2, h3⟩ := ok
  refine ⟨C, f, h1, h2, ?_⟩
  split at h3
  · exact h3
  · obtain ⟨p, v, e1, e2, e3⟩ := h3
    exact ⟨p, v, e1, e2, e3.mono fun b o q nb => ⟨q, fun z => nb (s b z)⟩⟩) e
theorem bad_more (s : ∀ a, G a → F a) {a : Addr} (h : ¬ Bad F σ ρ a) : ¬ Bad G σ ρ a := fun q => h (q.imp (s a) id)
theorem DV.less {d : D} (h : DV K H (Bad F σ ρ) v d) (s : ∀ a, G a → F a) : DV K H (Bad G σ ρ) v d := h.mono fun a o e nb => ⟨e, bad_more s nb⟩
theorem DVs.less {d : List D} {v : List V} (h : DVs K H (Bad F σ ρ) v d) (s : ∀ a, G a → F a) : DVs K H (Bad G σ ρ) v d := h.mono fun a o e nb => ⟨e, bad_more s nb⟩
theorem R1.less (h : R1 K H (Bad F σ ρ) σ v r) (s : ∀ a, G a → F a) : R1 K H (Bad G σ ρ) σ v r := by
  cases r with
  | dat d => exact DV.less h s
  | own xs => obtain ⟨a, vs, h1, h2, h3⟩ := h; exact ⟨a, vs, h1, h2, h3.less s⟩
  | ref i => exact h
/-- a later state in which there are further lists in hand -/
theorem Nx.badL {as : List Addr} (n : Nx σ ρ H σ ρ1 H1) (fr : ∀ a ∈ as, H a = none) : ∀ a o, H a = some o → ¬ Bad F σ ρ a → H1 a = some o ∧ ¬ Bad (FL F as) σ ρ1 a := fun a o h nb => by
  obtain ⟨h1, h2⟩ := n.bad (F := F) a o h nb
  refine ⟨h1, fun q => ?_⟩
  rcases q with (q | q) | q
  · exact h2 (.inl q)
  · rw [fr a q] at h; cases h
  · exact h2 (.inr q)
theorem R1.nxL {as : List Addr} (h : R1 K H (Bad F σ ρ) σ v r) (hn : ∀ xs, r ≠ .own xs) (n : Nx σ ρ H σ ρ1 H1) (fr : ∀ a ∈ as, H a = none) : R1 K H1 (Bad (FL F as) σ ρ1) σ v r := by
  cases r with
  | dat d => exact DV.mono (n.badL fr) _ _ h
  | own xs => exact (hn xs rfl).elim
  | ref i => exact h
theorem FL_own {x : Addr} {xs : List D} {as : List Addr} : FL (FF F (.ref x) (.own xs)) as = FL F (x :: as) := by
  funext b
  apply propext
  constructor
  · rintro ((q | q) | q)
    · exact .inl q
    · cases q; exact .inr (by simp)
    · exact .inr (by simp [q])
  · rintro (q | q)
    · exact .inl (.inl q)
    · rcases List.mem_cons.mp q with rfl | q
      · exact .inl (.inr rfl)
      · exact .inr q
theorem FL_nil : FL F [] = F := by funext b; simp [FL]
theorem d_nil : PA X [] (tDH c 0 (eL [])) := (pa_nil (X := X)).imp fun σ H Q ⟨F, ρ, E, Qd, rp, hw, xc, k⟩ =>
  k [] H ρ [] [] rfl Nx.refl (by rw [FL_nil]; exact rp) .nil (fun _ z => absurd z (by simp)) hw
theorem cons_imp {n : Nat} {w : W4} {ws : List W4} (σ : St) (H : Hp) (Q : List V → Hp → Prop) (h : tDH c (n + 1) (eL (w :: ws)) σ H Q) : tCons (tD c w.e) (tDH c n (eL ws)) σ H Q := by
  obtain ⟨F, ρ, E, Qd, rp, hw, xc, k⟩ := h
  refine ⟨F, ρ, E, _, rp, hw, xc, fun v H1 ρ1 r n1 ok1 f1 q1 => ?_⟩
  refine ⟨FF F v r, ρ1, E, _, ok1.rp, q1, (xc.nx n1).more fun a q => .inl q, fun vs H2 ρ2 rs as hl n2 rp2 hs2 fr2 q2 => ?_⟩
  cases r with
  | dat d =>
    have r1 := ok1.r1
    rw [FF_dat] at r1 rp2 hs2 fr2
    exact k _ _ _ _ as (by simp [hl]) (n1.trans n2) rp2 (.val (R1.nxL r1 (by simp) n2 fun a q => (fr2 a q).2) (by simp) hs2) (fun a q => ⟨(fr2 a q).1, n1.fresh (fr2 a q).2⟩) q2
  | ref i =>
    have r1 := ok1.r1
    rw [FF_ref] at r1 rp2 hs2 fr2
    exact k _ _ _ _ as (by simp [hl]) (n1.trans n2) rp2 (.val (R1.nxL r1 (by simp) n2 fun a q => (fr2 a q).2) (by simp) hs2) (fun a q => ⟨(fr2 a q).1, n1.fresh (fr2 a q).2⟩) q2
  | own xs =>
    obtain ⟨x, ws, rfl, e2, e3⟩ := ok1.r1
    have nO : ¬ Own σ ρ1 x := fun q => ok1.rp.own_ne q (.inr rfl)
    have nx : x ∉ as := fun q => (fr2 x q).1 (.inr rfl)
    have e3' : DVs c.K H2 (Bad (FL (FF F (.ref x) (.own xs)) as) σ ρ2) ws xs := e3.mono (n2.badL fun a q => (fr2 a q).2)
    rw [FL_own] at rp2 hs2 e3'
    refine k _ _ _ _ (x :: as) (by simp [hl]) (n1.trans n2) rp2 (.own (n2.keep _ _ e2 nO) e3' nx hs2) (fun a q => ?_) q2
    rcases List.mem_cons.mp q with rfl | q
    · exact ⟨ok1.nf _ rfl, f1 _ rfl⟩
    · exact ⟨fun z => (fr2 a q).1 (.inl z), n1.fresh (fr2 a q).2⟩
theorem d_cons {n : Nat} {w : W4} {ws : List W4} (ha : PE X e (tD c w.e)) (hr : PA X es (tDH c n (eL ws))) (hs : starEach (e :: es) X.env = (false, eval e X.env) :: starEach es X.env) : PA X (e :: es) (tDH c (n + 1) (eL (w :: ws))) :=
  (pa_cons ha hr hs).imp cons_imp
end
end DL
/-! DL8: expressions, on. -/
namespace DL
open PySem PySem.Spec PyProof.Rows L2
section
variable {X : Cx} {c : Cf} {K : PySem.W.Frag} {IO : Nat → Option Addr} {F G : Addr → Prop} {bad : Addr → Prop} {H H1 H2 H' : Hp} {σ : St} {ρ ρ1 ρ2 : Rho} {v : V} {r : Rs} {E : Xn → Prop}
  {e a b : Expr} {es : List Expr} {pos : Pos} {w wa wb wc : DTE}
theorem Hs.r1s {as : List Addr} {vs : List V} {rs : List Rs} (p : Rp K IO (FL F as) H σ ρ) (fr : ∀ a ∈ as, ¬ F a) (h : Hs K H (Bad (FL F as) σ ρ) σ vs rs as) : R1s K H (Bad F σ ρ) σ vs (rs.map rd) := by
  have s : ∀ a, F a → FL F as a := fun a q => .inl q
  suffices hh : ∀ bs, (∀ x ∈ bs, x ∈ as) → ∀ vs rs, Hs K H (Bad (FL F as) σ ρ) σ vs rs bs → R1s K H (Bad F σ ρ) σ vs (rs.map rd) from hh as (fun _ q => q) vs rs h
  intro bs hb vs rs h
  induction h with
  | nil => exact .nil
  | val h1 h2 _ ih =>
    refine .cons ?_ (fun xs => rd_ne xs) (ih hb)
    rename_i r _ _ _ _
    have q := R1.less h1 s
    cases r with
    | own xs => exact (h2 xs rfl).elim
    | dat d => exact q
    | ref i => exact q
  | own h1 h2 h3 _ ih =>
    rename_i x ws xs vs rs bs' _
    refine .cons ?_ (fun xs => rd_ne xs) (ih fun y q => hb y (List.mem_cons_of_mem _ q))
    have hx := hb x List.mem_cons_self
    exact .lst (.inl ⟨.inl h1, fun q => by
      rcases q with q | q
      · exact fr x hx q
      · exact p.own_ne q (.inr hx)⟩) (h2.less s)
theorem esc_rd {k : D → Rho → Prop} : esc (rd r) ρ k = esc r ρ k := by cases r <;> rfl
theorem escs_rd : ∀ (rs : List Rs) (ρ : Rho) (k : List D → Rho → Prop), escs (rs.map rd) ρ k = escs rs ρ k
  | [], _, _ => rfl
  | r :: rs, ρ, k => by
    show esc (rd r) ρ _ = esc r ρ _
    rw [esc_rd]
    congr 1
    funext d ρ1
    exact escs_rd rs ρ1 _
theorem deref_rd : deref ρ (rd r) = deref ρ r := by cases r <;> rfl
theorem derefs_rd : ∀ rs : List Rs, derefs ρ (rs.map rd) = derefs ρ rs
  | [] => rfl
  | r :: rs => by
    show (match deref ρ (rd r), derefs ρ (rs.map rd) with | some d, some ds => some (d :: ds) | _, _ => none) = _
    rw [deref_rd, derefs_rd rs]
    rfl
theorem R1.rsok (p : Rp K IO F H σ ρ) (h : R1 K H (Bad F σ ρ) σ v r) (hn : ∀ xs, r ≠ .own xs) : RsOk K IO F H σ ρ v r := by
  cases r with
  | dat d => exact .ofDat p h
  | ref i => exact .ofRef p h
  | own xs => exact (hn xs rfl).elim
theorem escs_ok : ∀ (rs : List Rs) {vs : List V} {ρ : Rho} {k : List D → Rho → Prop}, Rp K IO F H σ ρ → R1s K H (Bad F σ ρ) σ vs rs → escs rs ρ k →
    ∃ ds ρ', k ds ρ' ∧ Rp K IO F H σ ρ' ∧ DVs K H (Bad F σ ρ') vs ds ∧ Nx σ ρ H σ ρ' H
  | [], _, ρ, _, p, h, e => by cases h; exact ⟨[], ρ, e, p, .nil, Nx.refl⟩
  | r :: rs, _, ρ, k, p, h, e => by
    cases h with
    | cons h1 h2 h3 =>
      obtain ⟨d, ρ1, e1, p1, d1, n1⟩ := esc_ok (h1.rsok p h2) (show esc r ρ _ from e)
      obtain ⟨ds, ρ2, e2, p2, d2, n2⟩ := escs_ok rs p1 (h3.nx n1) e1
      exact ⟨d :: ds, ρ2, e2, p2, .cons (n2.dv d1) d2, n1.trans n2⟩
theorem derefs_ok : ∀ {rs : List Rs} {vs : List V} {ds : List D}, Rp K IO F H σ ρ → R1s K H (Bad F σ ρ) σ vs rs → derefs ρ rs = some ds → DRs K H (Bad F σ ρ) vs ds
  | [], _, _, p, h, e => by cases h; cases e; exact .nil
  | r :: rs, _, _, p, h, e => by
    cases h with
    | cons h1 h2 h3 =>
      simp only [derefs] at e
      split at e
      · rename_i d ds q1 q2
        cases e
        exact .cons (deref_ok p h1 q1) (derefs_ok p h3 q2)
      · cases e
/-! ### leaves -/
theorem d_val {d : D} (h : PE X e (tC v)) (dv : ∀ H bad, DV c.K H bad v d) : PE X e (tD c fun _ ρ Q => Q (.dat d) ρ) :=
  h.imp fun σ H Q ⟨F, ρ, E, Qd, rp, hw, xc, k⟩ => k v H ρ _ Nx.refl (.ofDat rp (dv _ _)) (fun _ q => q.elim) hw
theorem d_var {i : Nat} (h : PE X e (tVar i)) : PE X e (tD c fun _ ρ Q => match gt ρ i with
    | some (.dat d) => Q (.dat d) ρ
    | some (.own _ _) => Q (.ref i) ρ
    | none => False) := by
  refine h.imp fun σ H Q ⟨F, ρ, E, Qd, rp, hw, xc, k⟩ => ?_
  dsimp only at hw
  split at hw
  · rename_i d q
    obtain ⟨v, e1, e2⟩ := rp.dat i d q
    exact ⟨v, e1, k v H ρ _ Nx.refl (.ofDat rp e2) (fun _ q => q.elim) hw⟩
  · rename_i io xs q
    obtain ⟨a, vs, e1, _⟩ := rp.own i io xs q
    exact ⟨_, e1, k _ H ρ _ Nx.refl (.ofRef rp e1) (fun _ q => q.elim) hw⟩
  · exact hw.elim
/-! ### two operands -/
theorem nf_of (h : ResB K (Bad F σ ρ) H v H' r) : ∀ a, fr v r a → H a = none := fun a q => by
  cases r with
  | own xs =>
    obtain ⟨_, x, vs, e1, e2, _⟩ := h
    have e3 : v = .ref a := q
    rw [e1] at e3
    cases e3
    exact e2
  | dat d => exact q.elim
  | ref i => exact q.elim
theorem d_two {rl : R2} {Gm : D → D → (Rs → Prop) → Prop}
    (hr : ∀ x y H Q bad dx dy k, DR c.K H bad x dx → DR c.K H bad y dy → (∀ a, bad a → H a ≠ none) → Gm dx dy k → (∀ v H' r, ResB c.K bad H v H' r → k r → Q v H') → rl x y H Q)
    (h : PE X e (tOp rl (tD c wa) (tD c wb))) : PE X e (tD c fun E ρ Q => wa E ρ fun r ρ1 => wb E ρ1 fun s ρ2 => with2 ρ2 r s fun x y => Gm x y fun z => Q z ρ2) := by
  refine h.imp fun σ H Q ⟨F, ρ, E, Qd, rp, hw, xc, k⟩ => ?_
  refine ⟨F, ρ, E, _, rp, hw, xc, fun v H1 ρ1 r n1 ok1 f1 q1 => ?_⟩
  refine ⟨F, ρ1, E, _, ok1.rp', q1, xc.nx n1, fun u H2 ρ2 s n2 ok2 f2 q2 => ?_⟩
  simp only [with2] at q2
  split at q2
  · rename_i x y ex ey
    rw [← deref_rd] at ex ey
    have hx := deref_ok ok2.rp' ((ok1.r1').nx (fun xs => rd_ne xs) n2) ex
    have hy := deref_ok ok2.rp' ok2.r1' ey
    refine hr _ _ _ _ _ _ _ _ hx hy (fun a q => ok2.rp'.bad_dom q) q2 fun v' H' r' rb q' => ?_
    obtain ⟨n3, ok3⟩ := ResB.ok ok2.rp' rb
    exact k _ _ _ _ ((n1.trans n2).trans n3) ok3 (fun a q => (n1.trans n2).fresh (nf_of rb a q)) q'
  · exact q2.elim
theorem d_op2 {o : O2} (ha : PE X a (tD c wa)) (hb : PE X b (tD c wb)) (hK : X.K = c.K) : PE X (.BinOp a o.op b pos) (tD c fun E ρ Q => wa E ρ fun r ρ1 => wb E ρ1 fun s ρ2 => with2 ρ2 r s fun x y => op2D o x y fun z => Q z ρ2) :=
  d_two (rl := rD2 X.K (op2D o)) (fun x y H Q bad dx dy k h1 h2 h3 h4 h5 => by rw [hK]; exact ⟨bad, dx, dy, k, h1, h2, h3, h4, h5⟩) (pe_op (op2_ok o) ha hb)
theorem d_cmp {o : C2} (ha : PE X a (tD c wa)) (hb : PE X b (tD c wb)) (hK : X.K = c.K) (hu : X.A.units + 65 < cLine) (hm : behindInMarks o.op b = false) :
    PE X (.Compare a [o.op] [b] pos) (tD c fun E ρ Q => wa E ρ fun r ρ1 => wb E ρ1 fun s ρ2 => with2 ρ2 r s fun x y => cmpD o x y fun z => Q (.dat (.bool z)) ρ2) :=
  d_two (Gm := fun x y k => cmpD o x y fun z => k (.dat (.bool z))) (rl := rC2 X.K (cmpD o)) (fun x y H Q bad dx dy k h1 h2 h3 h4 h5 => by rw [hK]; exact ⟨bad, dx, dy, _, h1, h2, h4, fun b kb => h5 _ _ _ .bl kb⟩) (pe_cmpR (cmp_ok hu o) ha hb hm)
theorem d_idx (ha : PE X a (tD c wa)) (hb : PE X b (tD c wb)) (hK : X.K = c.K) (hs : PlainIx b) :
    PE X (.Subscript a b pos) (tD c fun E ρ Q => wa E ρ fun r ρ1 => wb E ρ1 fun s ρ2 => with2 ρ2 r s fun x y => idxD x y fun z => Q (.dat z) ρ2) :=
  d_two (Gm := fun x y k => idxD x y fun z => k (.dat z)) (rl := rI2 X.K) (fun x y H Q bad dx dy k h1 h2 h3 h4 h5 => by rw [hK]; exact ⟨bad, dx, dy, _, h1, h2, h4, fun v d hv kd => h5 _ _ _ (.same hv) kd⟩) (pe_ix idx_ok ha hb hs)
/-! ### one operand -/
theorem DR.none_iff {d : D} {x : V} (h : DR K H bad x d) : decide (x = .non) = isNone d := by
  cases d with
  | none => obtain rfl := h.non; rfl
  | bool b => obtain rfl := h.bl; rfl
  | int b => obtain rfl := h.int; rfl
  | str b => obtain rfl := h.str; rfl
  | list xs => obtain ⟨a, vs, rfl, _⟩ := h.list; rfl
  | tuple xs => obtain ⟨a, vs, rfl, _⟩ := h.tup; rfl
  | dict _ => cases h with | dv h => cases h
theorem d_isN {j pos'} (ha : PE X a (tD c wa)) : PE X (.Compare a [.Is] [.Constant .none j pos'] pos) (tD c fun E ρ Q => wa E ρ fun r ρ1 => with1 ρ1 r fun x => Q (.dat (.bool (isNone x))) ρ1) := by
  refine (pe_cmp (pc_isN ha) rfl).imp fun σ H Q ⟨F, ρ, E, Qd, rp, hw, xc, k⟩ => ⟨F, ρ, E, _, rp, hw, xc, fun v H1 ρ1 r n1 ok1 f1 q1 => ?_⟩
  simp only [with1] at q1
  split at q1
  · rename_i x ex
    rw [← deref_rd] at ex
    rw [(deref_ok ok1.rp' ok1.r1' ex).none_iff]
    exact k _ _ _ _ n1 (.ofDat ok1.rp' (.bl _)) (fun _ q => q.elim) q1
  · exact q1.elim
theorem d_notN {j pos'} (ha : PE X a (tD c wa)) : PE X (.Compare a [.IsNot] [.Constant .none j pos'] pos) (tD c fun E ρ Q => wa E ρ fun r ρ1 => with1 ρ1 r fun x => Q (.dat (.bool (!isNone x))) ρ1) := by
  refine (pe_cmp (pc_notN ha) rfl).imp fun σ H Q ⟨F, ρ, E, Qd, rp, hw, xc, k⟩ => ⟨F, ρ, E, _, rp, hw, xc, fun v H1 ρ1 r n1 ok1 f1 q1 => ?_⟩
  simp only [with1] at q1
  split at q1
  · rename_i x ex
    rw [← deref_rd] at ex
    rw [(deref_ok ok1.rp' ok1.r1' ex).none_iff]
    exact k _ _ _ _ n1 (.ofDat ok1.rp' (.bl _)) (fun _ q => q.elim) q1
  · exact q1.elim
theorem d_neg (ha : PE X a (tD c wa)) : PE X (.UnaryOp .USub a pos) (tD c fun E ρ Q => wa E ρ fun r ρ1 => match r with
    | .dat (.int i) => Q (.dat (.int (-i))) ρ1
    | _ => False) := by
  refine (pe_un un_neg ha).imp fun σ H Q ⟨F, ρ, E, Qd, rp, hw, xc, k⟩ => ⟨F, ρ, E, _, rp, hw, xc, fun v H1 ρ1 r n1 ok1 f1 q1 => ?_⟩
  split at q1
  · rename_i i
    have h1 := ok1.r1'
    obtain rfl := (DR.dv h1).int
    exact ⟨i, rfl, k _ _ _ _ n1 (.ofDat ok1.rp' (.int _)) (fun _ q => q.elim) q1⟩
  · exact q1.elim
theorem d_not (ha : PE X a (tD c wa)) : PE X (.UnaryOp .Not a pos) (tD c fun E ρ Q => wa E ρ fun r ρ1 => match r with
    | .dat (.bool b) => Q (.dat (.bool (!b))) ρ1
    | _ => False) := by
  refine (pe_not ha).imp fun σ H Q ⟨F, ρ, E, Qd, rp, hw, xc, k⟩ => ⟨F, ρ, E, _, rp, hw, xc, fun v H1 ρ1 r n1 ok1 f1 q1 => ?_⟩
  split at q1
  · rename_i i
    have h1 := ok1.r1'
    obtain rfl := (DR.dv h1).bl
    exact ⟨i, rfl, k _ _ _ _ n1 (.ofDat ok1.rp' (.bl _)) (fun _ q => q.elim) q1⟩
  · exact q1.elim
/-! ### tests -/
theorem t_val (h : PE X e (tD c w)) (he : ∀ whole, isTrue e X.env whole = (do let v ← whole; standAt e.pos; holding [v] (truthy v))) : PT X e (tDT c (asT w)) := by
  refine (pt_val h he).imp fun σ H Q ⟨F, ρ, E, Qd, rp, hw, xc, k⟩ => ⟨F, ρ, E, _, rp, hw, xc, fun v H1 ρ1 r n1 ok1 f1 q1 => ?_⟩
  split at q1
  · rename_i b
    have h1 := ok1.r1'
    obtain rfl := (DR.dv h1).bl
    exact ⟨b, rfl, k _ _ _ n1 ok1.rp' q1⟩
  · exact q1.elim
theorem t_of {t : TE} (h : PT X e (tTest t)) (i : ∀ σ H Q, tD c w σ H Q → t σ H Q) : PT X e (tDT c (asT w)) := by
  refine h.imp fun σ H Q ⟨F, ρ, E, Qd, rp, hw, xc, k⟩ => i _ _ _ ⟨F, ρ, E, _, rp, hw, xc, fun v H1 ρ1 r n1 ok1 f1 q1 => ?_⟩
  split at q1
  · rename_i b
    have h1 := ok1.r1'
    obtain rfl := (DR.dv h1).bl
    exact ⟨b, rfl, k _ _ _ n1 ok1.rp' q1⟩
  · exact q1.elim
theorem i_two {rl : R2} {Gm : D → D → (Rs → Prop) → Prop}
    (hr : ∀ x y H Q bad dx dy k, DR c.K H bad x dx → DR c.K H bad y dy → (∀ a, bad a → H a ≠ none) → Gm dx dy k → (∀ v H' r, ResB c.K bad H v H' r → k r → Q v H') → rl x y H Q) (σ : St) (H : Hp) (Q : VK)
    (h : tD c (fun E ρ Q => wa E ρ fun r ρ1 => wb E ρ1 fun s ρ2 => with2 ρ2 r s fun x y => Gm x y fun z => Q z ρ2) σ H Q) : tOp rl (tD c wa) (tD c wb) σ H Q := by
  obtain ⟨F, ρ, E, Qd, rp, hw, xc, k⟩ := h
  refine ⟨F, ρ, E, _, rp, hw, xc, fun v H1 ρ1 r n1 ok1 f1 q1 => ?_⟩
  refine ⟨F, ρ1, E, _, ok1.rp', q1, xc.nx n1, fun u H2 ρ2 s n2 ok2 f2 q2 => ?_⟩
  simp only [with2] at q2
  split at q2
  · rename_i x y ex ey
    rw [← deref_rd] at ex ey
    have hx := deref_ok ok2.rp' ((ok1.r1').nx (fun xs => rd_ne xs) n2) ex
    have hy := deref_ok ok2.rp' ok2.r1' ey
    refine hr _ _ _ _ _ _ _ _ hx hy (fun a q => ok2.rp'.bad_dom q) q2 fun v' H' r' rb q' => ?_
    obtain ⟨n3, ok3⟩ := ResB.ok ok2.rp' rb
    exact k _ _ _ _ ((n1.trans n2).trans n3) ok3 (fun a q => (n1.trans n2).fresh (nf_of rb a q)) q'
  · exact q2.elim
theorem t_cmp {o : C2} (ha : PE X a (tD c wa)) (hb : PE X b (tD c wb)) (hK : X.K = c.K) (hu : X.A.units + 65 < cLine) (hm : behindInMarks o.op b = false) :
    PT X (.Compare a [o.op] [b] pos) (tDT c (asT fun E ρ Q => wa E ρ fun r ρ1 => wb E ρ1 fun s ρ2 => with2 ρ2 r s fun x y => cmpD o x y fun z => Q (.dat (.bool z)) ρ2)) :=
  t_of (pt_cmpR (cmp_ok hu o) ha hb hm) (i_two (Gm := fun x y k => cmpD o x y fun z => k (.dat (.bool z))) (rl := rC2 X.K (cmpD o)) fun x y H Q bad dx dy k h1 h2 h3 h4 h5 => by rw [hK]; exact ⟨bad, dx, dy, _, h1, h2, h4, fun b kb => h5 _ _ _ .bl kb⟩)
theorem t_isN {j pos'} (ha : PE X a (tD c wa)) : PT X (.Compare a [.Is] [.Constant .none j pos'] pos) (tDT c (asT fun E ρ Q => wa E ρ fun r ρ1 => with1 ρ1 r fun x => Q (.dat (.bool (isNone x))) ρ1)) := by
  refine (pt_cmp (pc_isN ha) rfl).imp fun σ H Q ⟨F, ρ, E, Qd, rp, hw, xc, k⟩ => ⟨F, ρ, E, _, rp, hw, xc, fun v H1 ρ1 r n1 ok1 f1 q1 => ?_⟩
  simp only [with1] at q1
  split at q1
  · rename_i x ex
    rw [← deref_rd] at ex
    exact ⟨_, rfl, by rw [(deref_ok ok1.rp' ok1.r1' ex).none_iff]; exact k _ _ _ n1 ok1.rp' q1⟩
  · exact q1.elim
theorem t_notN {j pos'} (ha : PE X a (tD c wa)) : PT X (.Compare a [.IsNot] [.Constant .none j pos'] pos) (tDT c (asT fun E ρ Q => wa E ρ fun r ρ1 => with1 ρ1 r fun x => Q (.dat (.bool (!isNone x))) ρ1)) := by
  refine (pt_cmp (pc_notN ha) rfl).imp fun σ H Q ⟨F, ρ, E, Qd, rp, hw, xc, k⟩ => ⟨F, ρ, E, _, rp, hw, xc, fun v H1 ρ1 r n1 ok1 f1 q1 => ?_⟩
  simp only [with1] at q1
  split at q1
  · rename_i x ex
    rw [← deref_rd] at ex
    exact ⟨_, rfl, by rw [(deref_ok ok1.rp' ok1.r1' ex).none_iff]; exact k _ _ _ n1 ok1.rp' q1⟩
  · exact q1.elim
variable {ta tb : DTT} {rest : List Expr} {wh : List Expr}
def andT (ta tb : DTT) : DTT := fun E ρ Q => ta E ρ fun c ρ1 => (if c = true then tb E ρ1 Q else Q false ρ1)
def orT (ta tb : DTT) : DTT := fun E ρ Q => ta E ρ fun c ρ1 => (if c = true then Q true ρ1 else tb E ρ1 Q)
theorem _root_.L2.PW.imp {X : Cx} {e : Expr} {t t' : TT} (h : PW X e t) (i : ∀ σ H Q, t' σ H Q → t σ H Q) : PW X e t' := ⟨fun wh pins s σ H Q I q => h.run wh pins s σ H Q I (i _ _ _ q)⟩
theorem t_and (ha : PT X a (tDT c ta)) (hb : PW X (.BoolOp .And (b :: rest) pos) (tDT c tb)) : PW X (.BoolOp .And (a :: b :: rest) pos) (tDT c (andT ta tb)) := by
  refine (pw_and ha hb).imp fun σ H Q ⟨F, ρ, E, Qd, rp, hw, xc, k⟩ => ⟨F, ρ, E, _, rp, hw, xc, fun v H1 ρ1 n1 p1 q1 => ?_⟩
  cases v with
  | true => exact ⟨F, ρ1, E, _, p1, q1, xc.nx n1, fun v H2 ρ2 n2 p2 q2 => k _ _ _ (n1.trans n2) p2 q2⟩
  | false => exact k _ _ _ n1 p1 q1
theorem t_or (ha : PT X a (tDT c ta)) (hb : PW X (.BoolOp .Or (b :: rest) pos) (tDT c tb)) : PW X (.BoolOp .Or (a :: b :: rest) pos) (tDT c (orT ta tb)) := by
  refine (pw_or ha hb).imp fun σ H Q ⟨F, ρ, E, Qd, rp, hw, xc, k⟩ => ⟨F, ρ, E, _, rp, hw, xc, fun v H1 ρ1 n1 p1 q1 => ?_⟩
  cases v with
  | false => exact ⟨F, ρ1, E, _, p1, q1, xc.nx n1, fun v H2 ρ2 n2 p2 q2 => k _ _ _ (n1.trans n2) p2 q2⟩
  | true => exact k _ _ _ n1 p1 q1
theorem t_not (ha : PT X a (tDT c ta)) : PT X (.UnaryOp .Not a pos) (tDT c fun E ρ Q => ta E ρ fun b ρ1 => Q (!b) ρ1) := by
  refine (pt_not ha).imp fun σ H Q ⟨F, ρ, E, Qd, rp, hw, xc, k⟩ => ⟨F, ρ, E, _, rp, hw, xc, fun v H1 ρ1 n1 p1 q1 => k _ _ _ n1 p1 q1⟩
/-! .. as values -/
theorem d_and (ha : PE X a (tD c wa)) (hb : PE X (.BoolOp .And (b :: rest) pos) (tD c wb)) : PE X (.BoolOp .And (a :: b :: rest) pos) (tD c fun E ρ Q => wa E ρ fun r ρ1 => (match r with
      | .dat (.bool c) => if c = true then wb E ρ1 Q else Q (.dat (.bool false)) ρ1
      | _ => False)) := by
  refine (pe_and ha hb).imp fun σ H Q ⟨F, ρ, E, Qd, rp, hw, xc, k⟩ => ⟨F, ρ, E, _, rp, hw, xc, fun v H1 ρ1 r n1 ok1 f1 q1 => ?_⟩
  split at q1
  · rename_i i
    have h1 := ok1.r1'
    obtain rfl := (DR.dv h1).bl
    refine ⟨i, rfl, ?_⟩
    cases i with
    | true => exact ⟨F, ρ1, E, _, ok1.rp', q1, xc.nx n1, fun v H2 ρ2 r n2 p2 f2 q2 => k _ _ _ _ (n1.trans n2) p2 (fun a q => n1.fresh (f2 a q)) q2⟩
    | false => exact k _ _ _ _ n1 (.ofDat ok1.rp' (.bl _)) (fun _ q => q.elim) q1
  · exact q1.elim
theorem d_or (ha : PE X a (tD c wa)) (hb : PE X (.BoolOp .Or (b :: rest) pos) (tD c wb)) : PE X (.BoolOp .Or (a :: b :: rest) pos) (tD c fun E ρ Q => wa E ρ fun r ρ1 => (match r with
      | .dat (.bool c) => if c = true then Q (.dat (.bool true)) ρ1 else wb E ρ1 Q
      | _ => False)) := by
  refine (pe_or ha hb).imp fun σ H Q ⟨F, ρ, E, Qd, rp, hw, xc, k⟩ => ⟨F, ρ, E, _, rp, hw, xc, fun v H1 ρ1 r n1 ok1 f1 q1 => ?_⟩
  split at q1
  · rename_i i
    have h1 := ok1.r1'
    obtain rfl := (DR.dv h1).bl
    refine ⟨i, rfl, ?_⟩
    cases i with
    | false => exact ⟨F, ρ1, E, _, ok1.rp', q1, xc.nx n1, fun v H2 ρ2 r n2 p2 f2 q2 => k _ _ _ _ (n1.trans n2) p2 (fun a q => n1.fresh (f2 a q)) q2⟩
    | true => exact k _ _ _ _ n1 (.ofDat ok1.rp' (.bl _)) (fun _ q => q.elim) q1
  · exact q1.elim
theorem d_ife {q : Expr} (hq : PT X q (tDT c ta)) (ha : PE X a (tD c wa)) (hb : PE X b (tD c wb)) : PE X (.IfExp q a b pos) (tD c fun E ρ Q => ta E ρ fun q ρ1 => if q = true then wa E ρ1 Q else wb E ρ1 Q) := by
  refine (pe_ifExp hq ha hb).imp fun σ H Q ⟨F, ρ, E, Qd, rp, hw, xc, k⟩ => ⟨F, ρ, E, _, rp, hw, xc, fun v H1 ρ1 n1 p1 q1 => ?_⟩
  cases v with
  | true => exact ⟨F, ρ1, E, _, p1, q1, xc.nx n1, fun v H2 ρ2 r n2 p2 f2 q2 => k _ _ _ _ (n1.trans n2) p2 (fun a q => n1.fresh (f2 a q)) q2⟩
  | false => exact ⟨F, ρ1, E, _, p1, q1, xc.nx n1, fun v H2 ρ2 r n2 p2 f2 q2 => k _ _ _ _ (n1.trans n2) p2 (fun a q => n1.fresh (f2 a q)) q2⟩
end
end DL
/-! DL9: displays, slices, built-ins, calls. -/
namespace DL
open PySem PySem.Spec PyProof.Rows L2
section
variable {X : Cx} {c : Cf} {K : PySem.W.Frag} {IO : Nat → Option Addr} {F G : Addr → Prop} {bad : Addr → Prop} {H H1 H2 H' : Hp} {σ : St} {ρ ρ1 ρ2 : Rho} {v : V} {r : Rs} {E : Xn → Prop}
  {e a b : Expr} {es : List Expr} {pos : Pos} {w wa wb wc : DTE} {wr : DTR} {n : Nat}
theorem sub_FL {as : List Addr} : ∀ a, F a → FL F as a := fun a q => .inl q
/-- all escape -/
theorem all_esc {as : List Addr} {vs : List V} {rs : List Rs} {k : List D → Rho → Prop} (p : Rp K IO (FL F as) H σ ρ) (h : Hs K H (Bad (FL F as) σ ρ) σ vs rs as) (fr : ∀ a ∈ as, ¬ F a ∧ H1 a = none) (e : escs rs ρ k) :
    ∃ ds ρ', k ds ρ' ∧ Rp K IO F H σ ρ' ∧ DVs K H (Bad F σ ρ') vs ds ∧ Nx σ ρ H σ ρ' H :=
  escs_ok _ (p.less sub_FL) (h.r1s p fun a q => (fr a q).1) (by rw [escs_rd]; exact e)
theorem small_line {n : Nat} (h : n ≤ 1000) : n ≤ sizeLine := by rw [sizeLine_eq]; omega
theorem d_tup {k} (hn : n ≤ 1000) (h : PA X es (tDH c n wr)) : PE X (.Tuple es k pos) (tD c fun E ρ Q => wr E ρ fun rs ρ1 => escs rs ρ1 fun ds ρ2 => Q (.dat (.tuple ds)) ρ2) := by
  refine (pe_tup h).imp fun σ H Q ⟨F, ρ, E, Qd, rp, hw, xc, k⟩ => ⟨F, ρ, E, _, rp, hw, xc, fun vs H1 ρ1 rs as hl n1 p1 h1 f1 q1 => ?_⟩
  obtain ⟨ds, ρ2, q2, p2, d2, n2⟩ := all_esc p1 h1 f1 q1
  refine ⟨small_line (by omega), fun p hp => ?_⟩
  obtain ⟨n3, ok3⟩ := ResB.ok p2 (.tup (fun a q => p2.bad_dom q) hp d2)
  exact k _ _ _ _ ((n1.trans n2).trans n3) ok3 (fun _ q => q.elim) q2
theorem d_lst (hn : n ≤ 1000) (h : PA X es (tDH c n wr)) : PE X (.List es pos) (tD c fun E ρ Q => wr E ρ fun rs ρ1 => escs rs ρ1 fun ds ρ2 => Q (.own ds) ρ2) := by
  refine (pe_lst h).imp fun σ H Q ⟨F, ρ, E, Qd, rp, hw, xc, k⟩ => ⟨F, ρ, E, _, rp, hw, xc, fun vs H1 ρ1 rs as hl n1 p1 h1 f1 q1 => ?_⟩
  obtain ⟨ds, ρ2, q2, p2, d2, n2⟩ := all_esc p1 h1 f1 q1
  refine ⟨small_line (by omega), fun p hp => ?_⟩
  obtain ⟨n3, ok3⟩ := ResB.ok p2 (.lst (K := c.K) hp d2)
  exact k _ _ _ _ ((n1.trans n2).trans n3) ok3 (fun a q => (n1.trans n2).fresh (by cases q; exact hp)) q2
theorem d_repL {ns : List Expr} {wn : DTE} {p2 : Pos} (hn : n ≤ 1000) (h : PA X es (tDH c n wr)) (hb : PE X b (tD c wn)) : PE X (.BinOp (.List es p2) .Mult b pos) (tD c fun E ρ Q => wr E ρ fun rs ρ1 => escs rs ρ1 fun ds ρ2 => wn E ρ2 fun r ρ3 => match r with
    | .dat (.int j) => (-(2 ^ 63) ≤ j ∧ j < 2 ^ 63 ∧ LenOk (ds.length * j.toNat)) ∧ Q (.own (List.replicate j.toNat ds).flatten) ρ3
    | _ => False) := by
  refine (pe_op op_rep (pe_lst h) hb).imp fun σ H Q ⟨F, ρ, E, Qd, rp, hw, xc, k⟩ => ⟨F, ρ, E, _, rp, hw, xc, fun vs H1 ρ1 rs as hl n1 p1 h1 f1 q1 => ?_⟩
  obtain ⟨ds, ρ2, q2, p2, d2, n2⟩ := all_esc p1 h1 f1 q1
  refine ⟨small_line (by omega), fun p hp => ?_⟩
  obtain ⟨n3, ok3⟩ := ResB.ok p2 (.lst (K := c.K) hp d2)
  refine ⟨_, ρ2, E, _, ok3.rp, q2, (xc.nx ((n1.trans n2).trans n3)).more (fun a q => .inl q), fun u H3 ρ3 r n4 ok4 f4 q4 => ?_⟩
  split at q4
  · rename_i j
    obtain ⟨x, ws, e1, e2, e3⟩ := ok3.r1
    cases e1
    have nO : ¬ Own σ ρ2 p := fun q => ok3.rp.own_ne q (.inr rfl)
    have e4 := n4.keep _ _ e2 nO
    obtain rfl := (DR.dv ok4.r1').int
    have e5 := n4.dvs e3
    have rp4 : Rp c.K c.IO F H3 σ ρ3 := ok4.rp'.less fun a q => .inl q
    have e6 := e5.less (G := F) fun a q => .inl q
    refine ⟨p, j, ws, rfl, rfl, e4, q4.1.1, q4.1.2.1, by rw [e3.length]; exact q4.1.2.2, fun p' hp' => ?_⟩
    obtain ⟨n5, ok5⟩ := ResB.ok rp4 (.lst (K := c.K) hp' (e6.rep j.toNat))
    exact k _ _ _ _ ((((n1.trans n2).trans n3).trans n4).trans n5) ok5 (fun a q => (((n1.trans n2).trans n3).trans n4).fresh (by cases q; exact hp')) q4.2
  · exact q4.elim
/-! ### built-ins -/
theorem d_bi {g : List D → KR → Prop} {t : TA} (hK : X.K = c.K) (h : PE X e (tCB (rBi X.K g) t)) (ht : ∀ σ H Q, tDH c n wr σ H Q → t σ H Q) : PE X e (tD c fun E ρ Q => wr E ρ fun rs ρ1 => withs ρ1 rs fun ds => g ds fun z => Q z ρ1) := by
  refine h.imp fun σ H Q ⟨F, ρ, E, Qd, rp, hw, xc, k⟩ => ht _ _ _ ⟨F, ρ, E, _, rp, hw, xc, fun vs H1 ρ1 rs as hl n1 p1 h1 f1 q1 => ?_⟩
  simp only [withs] at q1
  split at q1
  · rename_i ds eds
    have p2 := p1.less (G := F) sub_FL
    have hr := h1.r1s p1 fun a q => (f1 a q).1
    rw [← derefs_rd] at eds
    rw [hK]
    refine ⟨_, ds, _, derefs_ok p2 hr eds, fun a q => p2.bad_dom q, q1, fun v H2 r rb q2 => ?_⟩
    obtain ⟨n3, ok3⟩ := ResB.ok p2 rb
    exact k _ _ _ _ (n1.trans n3) ok3 (fun a q => n1.fresh (nf_of rb a q)) q2
  · exact q1.elim
theorem d_is {T : String} {f : D → Bool} {p2 p3 : Pos} (hK : X.K = c.K) (kT : ∀ d, kitB (tyD d) T = some (f d)) (hg : Gl X "isinstance") (hm : X.mg "isinstance" = none) (hgT : Gl X (Str.ofString T)) (hmT : X.mg (Str.ofString T) = none) (hvT : bootBuiltins (Str.ofString T) = some (.type T)) (hnT : Str.ofString T ≠ "__name__")
    (hdT : (Str.ofString T == ("__debug__" : Str)) = false) (ha : PE X a (tD c wa)) (hs1 : starEach [a, .Name (Str.ofString T) p3] X.env = (false, eval a X.env) :: starEach [.Name (Str.ofString T) p3] X.env) :
    PE X (.Call (.Name "isinstance" p2) [a, .Name (Str.ofString T) p3] [] pos) (tD c fun E ρ Q => wa E ρ fun r ρ1 => withs ρ1 [r] fun ds => bIs f ds fun z => Q z ρ1) := by
  have hT : PE X (.Name (Str.ofString T) p3) (tC (.ty T)) := pe_bltn hgT hmT hvT rfl hnT hdT
  refine (pe_callB (b_is kT) hg hm (by decide +kernel) (pa_cons ha (pa_cons hT pa_nil rfl) hs1) (he := hs1)).imp fun σ H Q ⟨F, ρ, E, Qd, rp, hw, xc, k⟩ => ⟨F, ρ, E, _, rp, hw, xc, fun v H1 ρ1 r n1 ok1 f1 q1 => ?_⟩
  simp only [withs, derefs] at q1
  split at q1
  · rename_i ds eds
    split at eds
    · rename_i d ds' e1 e2
      cases eds
      cases e2
      rw [← deref_rd] at e1
      have hd := deref_ok ok1.rp' ok1.r1' e1
      exact ⟨_, v, d, rfl, by rw [hK]; exact hd, k _ _ _ _ n1 (.ofDat ok1.rp' (.bl _)) (fun _ q => q.elim) q1⟩
    · cases eds
  · exact q1.elim
/-! ### chains of comparisons -/
theorem d_chain {o o' : C2} {q : Expr} (ha : PE X a (tD c wa)) (hb : PE X b (tD c wb)) (hc : PE X q (tD c wc)) (hK : X.K = c.K) (hu : X.A.units + 65 < cLine) (hm : lastMarks [o.op, o'.op] [b, q] = false) :
    PE X (.Compare a [o.op, o'.op] [b, q] pos) (tD c fun E ρ Q => wa E ρ fun r ρ1 => wb E ρ1 fun s ρ2 => with2 ρ2 r s fun x y => cmpD o x y fun z =>
      if z = true then wc E ρ2 fun t ρ3 => with2 ρ3 s t fun y' u => cmpD o' y' u fun q => Q (.dat (.bool q)) ρ3
      else Q (.dat (.bool false)) ρ2) := by
  refine (pe_chain (cmp_ok hu o) (cmp_ok hu o') ha hb hc hm).imp fun σ H Q ⟨F, ρ, E, Qd, rp, hw, xc, k⟩ => ?_
  refine ⟨F, ρ, E, _, rp, hw, xc, fun v H1 ρ1 r n1 ok1 f1 q1 => ?_⟩
  refine ⟨F, ρ1, E, _, ok1.rp', q1, xc.nx n1, fun u H2 ρ2 s n2 ok2 f2 q2 => ?_⟩
  simp only [with2] at q2
  split at q2
  · rename_i x y ex ey
    rw [← deref_rd] at ex ey
    have hx := deref_ok ok2.rp' ((ok1.r1').nx (fun xs => rd_ne xs) n2) ex
    have hy := deref_ok ok2.rp' ok2.r1' ey
    rw [hK]
    refine ⟨_, x, y, _, hx, hy, q2, fun z kz => ⟨z, rfl, ?_⟩⟩
    cases z with
    | false => exact k _ _ _ _ (n1.trans n2) (.ofDat ok2.rp' (.bl _)) (fun _ q => q.elim) kz
    | true =>
      refine ⟨F, ρ2, E, _, ok2.rp', kz, xc.nx (n1.trans n2), fun w' H3 ρ3 t n3 ok3 f3 q3 => ?_⟩
      split at q3
      · rename_i y' u' ey' eu'
        rw [← deref_rd] at ey' eu'
        have hy' := deref_ok ok3.rp' ((ok2.r1').nx (fun xs => rd_ne xs) n3) ey'
        have hu' := deref_ok ok3.rp' ok3.r1' eu'
        exact ⟨_, y', u', _, hy', hu', q3, fun z' kz' => k _ _ _ _ ((n1.trans n2).trans n3) (.ofDat ok3.rp' (.bl _)) (fun _ q => q.elim) kz'⟩
      · exact q3.elim
  · exact q2.elim
/-! ### slices -/
def tDO (c : Cf) (w : (Xn → Prop) → Rho → (Option Int → Rho → Prop) → Prop) : TO := fun σ H Q => ∃ F ρ E Qd, Rp c.K c.IO F H σ ρ ∧ w E ρ Qd ∧ XC c F E σ ρ H ∧
  ∀ i H' ρ', Nx σ ρ H σ ρ' H' → Rp c.K c.IO F H' σ ρ' → Qd i ρ' → Q i H'
theorem _root_.L2.PO.imp {X : Cx} {e : Option Expr} {t t' : TO} (h : PO X e t) (i : ∀ σ H Q, t' σ H Q → t σ H Q) : PO X e t' := ⟨fun pins s σ H Q I q => h.run pins s σ H Q I (i _ _ _ q)⟩
theorem o_none : PO X none (tDO c (optI none)) := (po_none (X := X)).imp fun σ H Q ⟨F, ρ, E, Qd, rp, hw, xc, k⟩ => k _ _ _ Nx.refl rp hw
theorem o_some {w : W4} (h : PE X e (tD c w.e)) : PO X (some e) (tDO c (optI (some w))) := by
  refine (po_some h).imp fun σ H Q ⟨F, ρ, E, Qd, rp, hw, xc, k⟩ => ⟨F, ρ, E, _, rp, hw, xc, fun v H1 ρ1 r n1 ok1 f1 q1 => ?_⟩
  split at q1
  · rename_i i
    obtain rfl := (DR.dv ok1.r1').int
    exact ⟨i, rfl, k _ _ _ n1 ok1.rp' q1⟩
  · exact q1.elim
theorem d_slc {lo hi : Option Expr} {p2 : Pos} {wl wh : Option W4} (hK : X.K = c.K) (ha : PE X a (tD c wa)) (hl : PO X lo (tDO c (optI wl))) (hh : PO X hi (tDO c (optI wh))) :
    PE X (.Subscript a (.Slice lo hi none p2) pos) (tD c fun E ρ Q => wa E ρ fun r ρ1 => optI wl E ρ1 fun i ρ2 => optI wh E ρ2 fun j ρ3 => with1 ρ3 r fun x => slcD x i j fun z => Q z ρ3) := by
  refine (pe_slice slc_ok ha hl hh).imp fun σ H Q ⟨F, ρ, E, Qd, rp, hw, xc, k⟩ => ⟨F, ρ, E, _, rp, hw, xc, fun v H1 ρ1 r n1 ok1 f1 q1 => ?_⟩
  refine ⟨F, ρ1, E, _, ok1.rp', q1, xc.nx n1, fun i H2 ρ2 n2 p2 q2 => ?_⟩
  refine ⟨F, ρ2, E, _, p2, q2, xc.nx (n1.trans n2), fun j H3 ρ3 n3 p3 q3 => ?_⟩
  simp only [with1] at q3
  split at q3
  · rename_i x ex
    rw [← deref_rd] at ex
    have hx := deref_ok p3 ((ok1.r1').nx (fun xs => rd_ne xs) (n2.trans n3)) ex
    rw [hK]
    refine ⟨_, x, _, hx, fun a q => p3.bad_dom q, q3, fun v' H' r' rb q' => ?_⟩
    obtain ⟨n4, ok4⟩ := ResB.ok p3 rb
    exact k _ _ _ _ (((n1.trans n2).trans n3).trans n4) ok4 (fun a q => ((n1.trans n2).trans n3).fresh (nf_of rb a q)) q'
  · exact q3.elim
end
end DL
/-! DL10: defs and their calls. -/
namespace DL
open PySem PySem.Spec PyProof.Rows L2
/-- a def's contract where no text is being shown around -/
structure FnG (P : Program) (w : World) (K : PySem.W.Frag) (mg : Str → Option Value) (base : Heap) (CX : CXT) (k : Nat) (f : Addr) (fd : FuncData) (ps : List Str) (sp : Sp) : Prop where
  len : ∀ vs H Q E, sp vs H Q E → vs.length = ps.length
  run : ∀ (A : Around) (outer : List Env) (s : Shared) (H : Hp) (args : Args) (us : List Value) (vs : List V) (Q : VK) (E : XK), A.guards = some [] → Room k A → Env0 P w K mg base A outer s H → BindsTo s fd args (ps.zip us) → Vals vs us → sp vs H Q E →
    codeAny (model P w) A (.call (.ref f) args) (CR CX outer P w H s Q E) s
theorem FnG.mono {P : Program} {w : World} {K : PySem.W.Frag} {mg : Str → Option Value} {base : Heap} {CX : CXT} {j k : Nat} {f : Addr} {fd : FuncData} {ps : List Str} {sp : Sp} (F : FnG P w K mg base CX j f fd ps sp) (h : j ≤ k) : FnG P w K mg base CX k f fd ps sp :=
  ⟨F.len, fun A outer s H args us vs Q E hg hr => F.run A outer s H args us vs Q E hg (hr.mono h)⟩
theorem FnG.imp {P : Program} {w : World} {K : PySem.W.Frag} {mg : Str → Option Value} {base : Heap} {CX : CXT} {k : Nat} {f : Addr} {fd : FuncData} {ps : List Str} {sp sp' : Sp} (F : FnG P w K mg base CX k f fd ps sp)
    (h : ∀ vs H Q E, sp' vs H Q E → sp vs H Q E) : FnG P w K mg base CX k f fd ps sp' :=
  ⟨fun vs H Q E q => F.len vs H Q E (h _ _ _ _ q), fun A outer s H args us vs Q E hg hr he hb hv hs => F.run A outer s H args us vs Q E hg hr he hb hv (h _ _ _ _ hs)⟩
section
variable {X : Cx} {CX : CXT} {k : Nat} {f : Addr} {fd : FuncData} {ps ks : List Str} {sp : Sp} {E : XK} {x : Str} {p pos : Pos} {e : Expr} {es : List Expr} {kws : List Keyword} {t tk : TA}
/-- any binding of the arguments -/
theorem run_any {pins : List (Addr × Obj)} {σ : St} {H : Hp} {s : Shared} {Q : VK} {us : List Value} {vs : List V} {args : Args} {pv : List Value} {kw : List (Str × Value)} (F : FnG X.prog X.w X.K X.mg X.base CX k f fd ps sp) (hgd : X.A.guards = some []) (hr : Room k X.A)
    (hb : BindsTo s fd ⟨pv, kw⟩ (ps.zip us)) (hx : Passes CX X E) (I : Inv X pins σ H s) (r : Vals vs us) (h : sp vs H Q E) : wpAny (model X.prog X.w) X.A (call (.ref f) pv kw) (EP X pins σ Q) X.xe s :=
  wpAny_call (codeAny_mono (F.run X.A X.stack s H ⟨pv, kw⟩ us vs Q E hgd hr I.env0 hb r h) fun res s' hq => match res, hq with
    | .error ev, hq => hx pins σ H s ev s' I hq
    | .ok (.ret _), hq => I.after hq
    | .ok .next, hq => hq.elim
    | .ok .brk, hq => hq.elim
    | .ok .cont, hq => hq.elim)
theorem g_call (F : FnG X.prog X.w X.K X.mg X.base CX k f fd ps sp) (hgd : X.A.guards = some []) (hr : Room k X.A) (hg : Gl X x) (hm : X.mg x = some (.ref f)) (hk : PySem.W.keepIn X.K (.ref f) = true) (hb : Binds X.K fd ps []) (hx : Passes CX X E)
    (ha : PA X (e :: es) t) (hdb : (x == ("__debug__" : Str)) = false) (he : starEach (e :: es) X.env = (false, eval e X.env) :: starEach es X.env) (hpl : (backTo pos (starEach es X.env)).any (·.1) = false) :
    PE X (.Call (.Name x p) (e :: es) [] pos) (tCall sp [] E t) := ⟨fun pins s σ H Q I h =>
  wpAny_Call_Name_kw (ld_glob I hg hm (PySem.W.callWith_K (h₀ := X.base) I.ok.mod.kin hk (thn (ha.run pos pins s σ H _ I h) fun us s1 ⟨vs, H1, I1, r, q⟩ => by
    dsimp only at q
    rw [List.append_nil] at q
    have hl : us.length = ps.length := by rw [← r.length]; exact F.len _ _ _ _ q
    have b := hb s1 us I1.kIn (by rw [List.append_nil]; exact hl)
    rw [List.append_nil] at b
    exact ⟨I1.kIn, run_any (args := ⟨us, []⟩) F hgd hr b hx I1 r q⟩) he hpl) hdb)⟩
theorem g_call0 (F : FnG X.prog X.w X.K X.mg X.base CX k f fd ps sp) (hgd : X.A.guards = some []) (hr : Room k X.A) (hg : Gl X x) (hm : X.mg x = some (.ref f)) (hk : PySem.W.keepIn X.K (.ref f) = true) (hb : Binds X.K fd ps []) (hx : Passes CX X E) (hdb : (x == ("__debug__" : Str)) = false) :
    PE X (.Call (.Name x p) [] [] pos) (tCall sp [] E tNil) := ⟨fun pins s σ H Q I h => by
  have q : sp [] H Q E := h
  have hl : ([] : List V).length = ps.length := F.len _ _ _ _ q
  have b := hb s [] I.kIn (by simpa using hl)
  exact wpAny_Call_Name_kw (ld_glob I hg hm (PySem.W.callWith_K0 I.kIn hk (run_any (args := ⟨[], []⟩) (us := []) F hgd hr b hx I .nil q)) hdb)⟩
/-- all arguments by keywords, in the order of the parameters -/
def KwAll (K : PySem.W.Frag) (fd : FuncData) (ps : List Str) : Prop := ∀ (s : Shared) (us : List Value), K.In s.heap → us.length = ps.length → BindsTo s fd ⟨[], ps.zip us⟩ (ps.zip us)
theorem g_callK (F : FnG X.prog X.w X.K X.mg X.base CX k f fd ps sp) (hgd : X.A.guards = some []) (hr : Room k X.A) (hg : Gl X x) (hm : X.mg x = some (.ref f)) (hk : PySem.W.keepIn X.K (.ref f) = true) (hb : KwAll X.K fd ps) (hx : Passes CX X E)
    (hkw : PK X kws tk) (hall : (backToKw pos (keywordEach kws X.env)).all (·.1.isSome) = true) (hks : (backToKw pos (keywordEach kws X.env)).filterMap (·.1) = ps) (hdb : (x == ("__debug__" : Str)) = false)
    (hpl : ((backTo pos (starEach [] X.env)).any (·.1) || (backToKw pos (keywordEach kws X.env)).any (·.1.isNone)) = false) : PE X (.Call (.Name x p) [] kws pos) (tCall sp [] E tk) := ⟨fun pins s σ H Q I h =>
  wpAny_Call_Name_kw (ld_glob I hg hm (PySem.W.callWith_KW0 (h₀ := X.base) I.ok.mod.kin hk hall (thn (hkw.run pos pins s σ H _ I h) fun us s1 ⟨vs, H1, I1, r, q⟩ => by
    dsimp only at q
    rw [List.append_nil] at q
    have hl : us.length = ps.length := by rw [← r.length]; exact F.len _ _ _ _ q
    rw [hks]
    exact ⟨I1.kIn, run_any (args := ⟨[], ps.zip us⟩) F hgd hr (hb s1 us I1.kIn hl) hx I1 r q⟩) hpl) hdb)⟩
end
/-! ### contracts at the level of data -/
def IOof (vs : List V) (i : Nat) : Option Addr := match vs[i]? with
  | some (.ref a) => some a
  | _ => none
/-- the arguments' slots with what the lists of the caller hold then -/
def puts : List Sl → List (List D) → List Sl
  | [], _ => []
  | .dat d :: s, o => .dat d :: puts s o
  | .own b _ :: s, x :: o => .own b x :: puts s o
  | .own b x :: s, [] => .own b x :: puts s []
def noref : Rs → Prop
  | .ref _ => False
  | _ => True
def hs (K : PySem.W.Frag) (xt : Str → Option (Addr × Str)) (n : Nat) (sp : DSp) : Sp := fun vs H Q Eh => ∃ (F : Addr → Prop) (sl : List Sl) (Qd : Rs → List (List D) → Prop) (Ed : Xn → Prop),
  sl.length = n ∧ Rp K (IOof vs) F H (vs.map some) (sl.map some) ∧ sp sl Qd Ed ∧
  (∀ v H' r outs, Nx (vs.map some) (sl.map some) H (vs.map some) ((puts sl outs).map some) H' → RsOk K (IOof vs) F H' (vs.map some) ((puts sl outs).map some) v r → noref r → (∀ a, fr v r a → H a = none) → Qd r outs → Q v H') ∧
  (∀ cls dx H' x, (∀ a o, H a = some o → ¬ Own (vs.map some) (sl.map some) a → H' a = some o) → XnOk K xt F H' cls dx x → Ed x → Eh cls dx H')
theorem hs_len {K : PySem.W.Frag} {xt : Str → Option (Addr × Str)} {n : Nat} {sp : DSp} (vs : List V) (H : Hp) (Q : VK) (E : XK) (h : hs K xt n sp vs H Q E) : vs.length = n := by
  obtain ⟨F, sl, _, _, h1, h2, _⟩ := h
  have := h2.len
  simp only [List.length_map] at this
  omega
section
variable {X : Cx} {c : Cf} {K : PySem.W.Frag} {IO : Nat → Option Addr} {F G : Addr → Prop} {bad : Addr → Prop} {H H1 H2 H' : Hp} {σ : St} {ρ ρ1 ρ2 : Rho} {v : V} {r : Rs} {E : Xn → Prop}
  {e a b : Expr} {es : List Expr} {pos : Pos} {w wa wb wc : DTE} {wr : DTR} {n : Nat}
theorem gt_dats : ∀ (ds : List D) (i : Nat), gt ((ds.map Sl.dat).map some) i = (ds[i]?).map Sl.dat
  | [], _ => by simp [gt]
  | d :: ds, 0 => by simp [gt]
  | d :: ds, i + 1 => by simpa [gt] using gt_dats ds i
theorem no_own {ds : List D} {vs : List V} {a : Addr} : ¬ Own (vs.map some) ((ds.map Sl.dat).map some) a := by
  rintro ⟨i, io, xs, h1, _⟩
  rw [gt_dats] at h1
  cases q : ds[i]? with
  | none => rw [q] at h1; cases h1
  | some d => rw [q] at h1; cases h1
theorem puts_dats : ∀ (ds : List D) (o : List (List D)), puts (ds.map Sl.dat) o = ds.map Sl.dat
  | [], _ => rfl
  | d :: ds, o => by simp [puts, puts_dats ds o]
theorem DVs.nth {vs : List V} {ds : List D} (h : DVs K H bad vs ds) {i : Nat} {d : D} (e : ds[i]? = some d) : ∃ v, (vs.map some)[i]? = some (some v) ∧ DV K H bad v d := by
  obtain ⟨v, h1, h2⟩ := h.get e
  exact ⟨v, by simp [h1], h2⟩
/-- a call with data alone -/
theorem hs_dats {xt : Str → Option (Addr × Str)} {sp : DSp} {vs : List V} {ds : List D} {Q : VK} {Eh : XK} {Qd : Rs → Rho → Prop} (p : Rp K IO F H σ ρ) (h : DVs K H (Bad F σ ρ) vs ds) (hn : vs.length = n) (q : sp (ds.map .dat) (fun r _ => Qd r ρ) E)
    (xc : ∀ cls dx H' x, (∀ a o, H a = some o → ¬ Own σ ρ a → H' a = some o) → XnOk K xt F H' cls dx x → E x → Eh cls dx H')
    (k : ∀ v H' r, Nx σ ρ H σ ρ H' → RsOk K IO F H' σ ρ v r → (∀ a, fr v r a → H a = none) → Qd r ρ → Q v H') : hs K xt n sp vs H Q Eh := by
  refine ⟨Bad F σ ρ, ds.map .dat, _, E, by rw [List.length_map, ← h.length]; exact hn, ⟨fun i d e => ?_, fun i io xs e => ?_, fun i j io jo xs ys a e => ?_, fun a z => p.bad_dom z, ?_⟩, q, fun v H' r outs n1 ok nr f q => ?_, fun cls dx H' x kp ok e => ?_⟩
  · rw [gt_dats] at e
    cases z : ds[i]? with
    | none => rw [z] at e; cases e
    | some d' =>
      rw [z] at e; cases e
      obtain ⟨v, h1, h2⟩ := h.nth z
      exact ⟨v, h1, h2.mono fun a o e nb => ⟨e, fun y => y.elim nb no_own⟩⟩
  · rw [gt_dats] at e
    cases z : ds[i]? <;> rw [z] at e <;> cases e
  · rw [gt_dats] at e
    cases z : ds[i]? <;> rw [z] at e <;> cases e
  · simp [h.length]
  · rw [puts_dats] at n1 ok
    have rb : ResB K (Bad F σ ρ) H v H' r := by
      refine ⟨fun a o e => n1.keep a o e no_own, ?_⟩
      cases r with
      | dat d => exact DV.less (F := Bad F σ ρ) ok.r1' (fun a q => q) |>.mono fun a o e nb => ⟨e, fun z => nb (.inl z)⟩
      | ref i => exact nr.elim
      | own xs =>
        obtain ⟨a, ws, rfl, e2, e3⟩ := ok.r1
        refine ⟨a, ws, rfl, f a rfl, e2, e3.mono fun b o e nb => ⟨e, fun z => nb (.inl ?_)⟩⟩
        rcases z with z | z
        · exact .inl z
        · subst z; exact .inr rfl
    obtain ⟨n2, ok2⟩ := ResB.ok p rb
    exact k v H' r n2 ok2 f q
  · refine xc cls dx H' x (fun a o e _ => kp a o e no_own) ?_ e
    obtain ⟨C, f, h1, h2, h3⟩ := ok
    refine ⟨C, f, h1, h2, ?_⟩
    split at h3
    · exact h3
    · obtain ⟨y, u, e1, e2, e3⟩ := h3
      exact ⟨y, u, e1, e2, e3.mono fun b o q nb => ⟨q, fun z => nb (.inl z)⟩⟩
theorem d_call {sp : DSp} {ws : List W4} {t : TA} (hK : X.K = c.K) (h : PE X e (tCall (hs X.K c.xt n sp) [] c.Eh t)) (ht : ∀ σ H Q, tDH c n (eL ws) σ H Q → t σ H Q) : PE X e (tD c (callW sp ws)) := by
  refine h.imp fun σ H Q ⟨F, ρ, E, Qd, rp, hw, xc, k⟩ => ht _ _ _ ⟨F, ρ, E, _, rp, hw, xc, fun vs H1 ρ1 rs as hl n1 p1 h1 f1 q1 => ?_⟩
  obtain ⟨ds, ρ2, q2, p2, d2, n2⟩ := all_esc p1 h1 f1 q1
  rw [List.append_nil, hK]
  exact hs_dats p2 d2 hl q2 (xc.nx (n1.trans n2)) fun v H' r n3 ok3 f3 q3 => k _ _ _ _ ((n1.trans n2).trans n3) ok3 (fun a q => (n1.trans n2).fresh (f3 a q)) q3
end
end DL
/-! DL11: calls that hand a list on and get it back. -/
namespace DL
open PySem PySem.Spec PyProof.Rows L2
section
variable {X : Cx} {c : Cf} {K : PySem.W.Frag} {IO : Nat → Option Addr} {F G : Addr → Prop} {bad : Addr → Prop} {H H1 H2 H' : Hp} {σ : St} {ρ ρ1 ρ2 : Rho} {v : V} {r : Rs} {E : Xn → Prop}
  {e a b : Expr} {es : List Expr} {pos : Pos} {w wa wb wc : DTE} {wr : DTR} {n : Nat}
theorem own_io {x y : Addr} {xs : List D} {ws : List V} {ds : List D} : Own ((V.ref x :: ws).map some) ((Sl.own true xs :: ds.map Sl.dat).map some) y ↔ y = x := by
  constructor
  · rintro ⟨i, io, zs, h1, h2⟩
    cases i with
    | zero => simp at h2; exact h2.symm
    | succ i =>
      have h1' : gt ((ds.map Sl.dat).map some) i = some (Sl.own io zs) := h1
      rw [gt_dats] at h1'
      cases q : ds[i]? <;> rw [q] at h1' <;> cases h1'
  · rintro rfl
    exact ⟨0, true, xs, rfl, rfl⟩
/-- what stands behind such a call -/
structure AfterIo (K : PySem.W.Frag) (B : Addr → Prop) (x : Addr) (H : Hp) (v : V) (H' : Hp) (r : Rs) (ys : List D) : Prop where
  keep : ∀ b o, H b = some o → b ≠ x → H' b = some o
  held : ∃ us, H' x = some (.lst us) ∧ DVs K H' (fun b => B b ∨ fr v r b) us ys
  res : match r with
    | .dat d => DV K H' B v d
    | .own zs => ∃ p qs, v = .ref p ∧ H p = none ∧ H' p = some (.lst qs) ∧ DVs K H' (fun b => B b ∨ b = p) qs zs
    | .ref _ => False
theorem hs_io {xt : Str → Option (Addr × Str)} {sp : DSp} {ws : List V} {ds : List D} {xs : List D} {us : List V} {x : Addr} {Q : VK} {Eh : XK} {Qd : Rs → List D → Prop} (p : Rp K IO F H σ ρ)
    (hx : H x = some (.lst us)) (hxs : DVs K H (fun b => Bad F σ ρ b ∨ b = x) us xs) (h : DVs K H (fun b => Bad F σ ρ b ∨ b = x) ws ds) (hn : ws.length + 1 = n)
    (q : sp (.own true xs :: ds.map .dat) (fun r outs => match outs with
      | [ys] => Qd r ys
      | _ => False) E)
    (xc : ∀ cls dx H' y, (∀ a o, H a = some o → a ≠ x → H' a = some o) → XnOk K xt (fun b => Bad F σ ρ b ∧ b ≠ x) H' cls dx y → E y → Eh cls dx H')
    (k : ∀ v H' r ys, AfterIo K (fun b => Bad F σ ρ b ∨ b = x) x H v H' r ys → Qd r ys → Q v H') : hs K xt n sp (.ref x :: ws) H Q Eh := by
  have hB : ∀ (zs : List D) (b : Addr), Bad (fun b => Bad F σ ρ b ∧ b ≠ x) ((V.ref x :: ws).map some) ((Sl.own true zs :: ds.map Sl.dat).map some) b ↔ (Bad F σ ρ b ∨ b = x) := fun zs b => by
    constructor
    · rintro (z | z)
      · exact .inl z.1
      · exact .inr (own_io.mp z)
    · rintro (z | z)
      · by_cases hb : b = x
        · exact .inr (own_io.mpr hb)
        · exact .inl ⟨z, hb⟩
      · exact .inr (own_io.mpr z)
  have hm : ∀ (zs : List D) (a : Addr) (o : HO), H a = some o → ¬ (Bad F σ ρ a ∨ a = x) → H a = some o ∧ ¬ Bad (fun b => Bad F σ ρ b ∧ b ≠ x) ((V.ref x :: ws).map some) ((Sl.own true zs :: ds.map Sl.dat).map some) a := fun zs a o e nb => ⟨e, fun z => nb ((hB zs a).mp z)⟩
  refine ⟨fun b => Bad F σ ρ b ∧ b ≠ x, .own true xs :: ds.map .dat, _, E, by simp [h.length] at hn ⊢; exact hn, ⟨fun i d e => ?_, fun i io zs e => ?_, fun i j io jo zs ys y e1 e2 e3 e4 => ?_, fun b z => p.bad_dom z.1, ?_⟩, q, fun v H' r outs n1 ok nr f q => ?_, fun cls dx H' y kp ok e => ?_⟩
  · cases i with
    | zero => cases e
    | succ i =>
      have e' : gt ((ds.map Sl.dat).map some) i = some (Sl.dat d) := e
      rw [gt_dats] at e'
      cases z : ds[i]? with
      | none => rw [z] at e'; cases e'
      | some d' =>
        rw [z] at e'; cases e'
        obtain ⟨v, h1, h2⟩ := h.nth z
        exact ⟨v, by simpa using h1, h2.mono (hm xs)⟩
  · cases i with
    | zero =>
      cases e
      exact ⟨x, us, rfl, hx, hxs.mono (hm xs), fun z => z.2 rfl, fun _ => rfl⟩
    | succ i =>
      have e' : gt ((ds.map Sl.dat).map some) i = some (Sl.own io zs) := e
      rw [gt_dats] at e'
      cases z : ds[i]? <;> rw [z] at e' <;> cases e'
  · cases i with
    | zero =>
      cases j with
      | zero => rfl
      | succ j =>
        have e' : gt ((ds.map Sl.dat).map some) j = some (Sl.own jo ys) := e2
        rw [gt_dats] at e'
        cases z : ds[j]? <;> rw [z] at e' <;> cases e'
    | succ i =>
      have e' : gt ((ds.map Sl.dat).map some) i = some (Sl.own io zs) := e1
      rw [gt_dats] at e'
      cases z : ds[i]? <;> rw [z] at e' <;> cases e'
  · simp [h.length]
  · split at q
    · rename_i ys
      have hp : puts (.own true xs :: ds.map .dat) [ys] = .own true ys :: ds.map .dat := by simp only [puts, puts_dats]
      rw [hp] at n1 ok
      have kp : ∀ b o, H b = some o → b ≠ x → H' b = some o := fun b o e nb => n1.keep b o e fun z => nb (own_io.mp z)
      refine k v H' r ys ⟨kp, ?_, ?_⟩ q
      · obtain ⟨y, us', e1, e2, e3, _⟩ := ok.rp.own 0 true ys rfl
        have e1' : V.ref x = V.ref y := by simpa using e1
        cases e1'
        refine ⟨us', e2, e3.mono fun b o e nb => ⟨e, fun z => nb ?_⟩⟩
        rcases z with z | z
        · rcases (hB ys b).mpr z with y | y
          · exact .inl (.inl y)
          · exact .inr y
        · exact .inl (.inr z)
      · cases r with
        | dat d => exact DV.mono (fun b o e nb => ⟨e, fun z => nb ((hB ys b).mpr z)⟩) _ _ ok.r1'
        | ref i => exact nr.elim
        | own zs =>
          obtain ⟨y, qs, rfl, e2, e3⟩ := ok.r1
          refine ⟨y, qs, rfl, f y rfl, e2, e3.mono fun b o e nb => ⟨e, fun z => nb ?_⟩⟩
          rcases z with z | z
          · rcases (hB ys b).mpr z with y | y
            · exact .inl (.inl y)
            · exact .inr y
          · subst z; exact .inl (.inr rfl)
    · exact q.elim
  · exact xc cls dx H' y (fun b o e nb => kp b o e fun z => nb (own_io.mp z)) ok e
/-- the list is that of a name -/
theorem AfterIo.ref {i : Nat} {bo : Bool} {xs ys : List D} {x : Addr} (p : Rp K IO F H σ ρ) (e : gt ρ i = some (.own bo xs)) (es : σ[i]? = some (some (.ref x)))
    (A : AfterIo K (fun b => Bad F σ ρ b ∨ b = x) x H v H' r ys) : Nx σ ρ H σ (ρ.set i (some (.own bo ys))) H' ∧ RsOk K IO F H' σ (ρ.set i (some (.own bo ys))) v r ∧ ∀ a, fr v r a → H a = none := by
  have hO : Own σ ρ x := ⟨i, bo, xs, e, es⟩
  have ownE : ∀ b, Own σ (ρ.set i (some (.own bo ys))) b ↔ Own σ ρ b := fun b => by
    constructor
    · rintro ⟨j, io, zs, h1, h2⟩
      by_cases hj : j = i
      · subst hj
        rw [es] at h2; cases h2
        exact hO
      · rw [gt_set_ne hj] at h1
        exact ⟨j, io, zs, h1, h2⟩
    · rintro ⟨j, io, zs, h1, h2⟩
      by_cases hj : j = i
      · subst hj
        exact ⟨j, bo, ys, gt_set_self (gt_lt e), h2⟩
      · exact ⟨j, io, zs, by rw [gt_set_ne hj]; exact h1, h2⟩
  have hBx : ∀ b, (Bad F σ ρ b ∨ b = x) → Bad F σ ρ b := fun b z => z.elim id fun y => by subst y; exact .inr hO
  obtain ⟨us, u1, u2⟩ := A.held
  have frN : ∀ a, fr v r a → H a = none := fun a z => by
    cases r with
    | dat d => exact z.elim
    | ref i => exact z.elim
    | own zs =>
      obtain ⟨p', qs, e1, e2, _⟩ := A.res
      have z' : v = .ref a := z
      rw [e1] at z'; cases z'
      exact e2
  have there : ∀ a o, H a = some o → ∃ o', H' a = some o' := fun a o q => by
    by_cases ha : a = x
    · subst ha; exact ⟨_, u1⟩
    · exact ⟨o, A.keep a o q ha⟩
  have n : Nx σ ρ H σ (ρ.set i (some (.own bo ys))) H' := ⟨fun a o q nq => A.keep a o q fun z => nq (by subst z; exact hO), fun a q => .inl ((ownE a).mp q), there⟩
  have km : ∀ a o, H a = some o → ¬ Bad F σ ρ a → H' a = some o ∧ ¬ Bad (FF F v r) σ (ρ.set i (some (.own bo ys))) a := fun a o q nb => by
    refine ⟨A.keep a o q fun z => nb (.inr (by subst z; exact hO)), fun z => ?_⟩
    rcases z with (z | z) | z
    · exact nb (.inl z)
    · rw [frN a z] at q; cases q
    · exact nb (.inr ((ownE a).mp z))
  have hB' : ∀ b, Bad (FF F v r) σ (ρ.set i (some (.own bo ys))) b → (Bad F σ ρ b ∨ b = x) ∨ fr v r b := fun b z => by
    rcases z with (z | z) | z
    · exact .inl (.inl (.inl z))
    · exact .inr z
    · exact .inl (.inl (.inr ((ownE b).mp z)))
  refine ⟨n, ⟨⟨fun j d q => ?_, fun j io zs q => ?_, fun j l io jo zs zs' y h1 h2 h3 h4 => ?_, fun a z => ?_, by simpa using p.len⟩, ?_, fun a z => ?_⟩, frN⟩
  · have hj : j ≠ i := by
      rintro rfl
      rw [gt_set_self (gt_lt e)] at q; cases q
    rw [gt_set_ne hj] at q
    obtain ⟨u, h1, h2⟩ := p.dat j d q
    exact ⟨u, h1, h2.mono km⟩
  · by_cases hj : j = i
    · subst hj
      rw [gt_set_self (gt_lt e)] at q; cases q
      obtain ⟨y, ws, e1, e2, e3, e4, e5⟩ := p.own j _ _ e
      rw [es] at e1; cases e1
      refine ⟨x, us, es, u1, u2.mono fun b o q nb => ⟨q, fun z => nb (hB' b z)⟩, fun z => ?_, e5⟩
      rcases z with z | z
      · exact e4 z
      · have := frN _ z; rw [e2] at this; cases this
    · rw [gt_set_ne hj] at q
      obtain ⟨y, ws, e1, e2, e3, e4, e5⟩ := p.own j _ _ q
      have ny : y ≠ x := fun z => by
        subst z
        exact hj (p.inj j i _ _ _ _ y q e e1 es)
      refine ⟨y, ws, e1, A.keep _ _ e2 ny, e3.mono km, fun z => ?_, e5⟩
      rcases z with z | z
      · exact e4 z
      · have := frN _ z; rw [e2] at this; cases this
  · have q1 : ∃ io' zs'', gt ρ j = some (.own io' zs'') := by
      by_cases hj : j = i
      · subst hj; exact ⟨_, _, e⟩
      · rw [gt_set_ne hj] at h1; exact ⟨_, _, h1⟩
    have q2 : ∃ io' zs'', gt ρ l = some (.own io' zs'') := by
      by_cases hj : l = i
      · subst hj; exact ⟨_, _, e⟩
      · rw [gt_set_ne hj] at h2; exact ⟨_, _, h2⟩
    obtain ⟨_, _, q1⟩ := q1
    obtain ⟨_, _, q2⟩ := q2
    exact p.inj j l _ _ _ _ y q1 q2 h3 h4
  · rcases z with z | z
    · have := p.fdom a z
      cases q : H a with
      | none => exact (this q).elim
      | some o => obtain ⟨o', q'⟩ := there a o q; rw [q']; simp
    · cases r with
      | dat d => exact z.elim
      | ref i => exact z.elim
      | own zs =>
        obtain ⟨p', qs, e1, e2, e3, _⟩ := A.res
        have z' : v = .ref a := z
        rw [e1] at z'; cases z'
        rw [e3]; simp
  · have res := A.res
    cases r with
    | dat d => exact DV.mono (fun b o q nb => ⟨q, fun z => nb ((hB' b z).elim (fun y => y) fun y => y.elim)⟩) _ _ res
    | ref j => exact res.elim
    | own zs =>
      obtain ⟨p', qs, e1, e2, e3, e4⟩ := res
      refine ⟨p', qs, e1, e3, e4.mono fun b o q nb => ⟨q, fun z => nb ?_⟩⟩
      rcases hB' b z with y | y
      · exact .inl y
      · have y' : v = .ref b := y
        rw [e1] at y'; cases y'
        exact .inr rfl
  · intro q
    exact p.fdom a q (frN a z)
/-- the list is in hand -/
theorem AfterIo.tmp {ys : List D} {x : Addr} {xs : List D} (p : Rp K IO (FF F (.ref x) (.own xs)) H σ ρ) (hf : ¬ F x) (A : AfterIo K (fun b => Bad F σ ρ b ∨ b = x) x H v H' r ys) :
    (∀ b o, H b = some o → b ≠ x → H' b = some o) ∧ RsOk K IO F H' σ ρ v r ∧ ∀ a, fr v r a → H a = none := by
  have nO : ¬ Own σ ρ x := fun q => p.own_ne q (.inr rfl)
  obtain ⟨us, u1, u2⟩ := A.held
  have frN : ∀ a, fr v r a → H a = none := fun a z => by
    cases r with
    | dat d => exact z.elim
    | ref i => exact z.elim
    | own zs =>
      obtain ⟨p', qs, e1, e2, _⟩ := A.res
      have z' : v = .ref a := z
      rw [e1] at z'; cases z'
      exact e2
  have km : ∀ a o, H a = some o → ¬ Bad (FF F (.ref x) (.own xs)) σ ρ a → H' a = some o ∧ ¬ Bad (FF F v r) σ ρ a := fun a o q nb => by
    refine ⟨A.keep a o q fun z => nb (by subst z; exact .inl (.inr rfl)), fun z => ?_⟩
    rcases z with (z | z) | z
    · exact nb (.inl (.inl z))
    · rw [frN a z] at q; cases q
    · exact nb (.inr z)
  refine ⟨A.keep, ⟨⟨fun j d q => ?_, fun j io zs q => ?_, p.inj, fun a z => ?_, p.len⟩, ?_, fun a z => ?_⟩, frN⟩
  · obtain ⟨u, h1, h2⟩ := p.dat j d q
    exact ⟨u, h1, h2.mono km⟩
  · obtain ⟨y, ws, e1, e2, e3, e4, e5⟩ := p.own j _ _ q
    have ny : y ≠ x := fun z => by subst z; exact nO ⟨j, io, zs, q, e1⟩
    refine ⟨y, ws, e1, A.keep _ _ e2 ny, e3.mono km, fun z => ?_, e5⟩
    rcases z with z | z
    · exact e4 (.inl z)
    · have := frN _ z; rw [e2] at this; cases this
  · rcases z with z | z
    · have := p.fdom a (.inl z)
      cases q : H a with
      | none => exact (this q).elim
      | some o =>
        by_cases ha : a = x
        · subst ha; exact (hf z).elim
        · rw [A.keep a o q ha]; simp
    · cases r with
      | dat d => exact z.elim
      | ref i => exact z.elim
      | own zs =>
        obtain ⟨p', qs, e1, e2, e3, _⟩ := A.res
        have z' : v = .ref a := z
        rw [e1] at z'; cases z'
        rw [e3]; simp
  · have res := A.res
    have hB' : ∀ b, Bad (FF F v r) σ ρ b → (Bad F σ ρ b ∨ b = x) ∨ fr v r b := fun b z => by
      rcases z with (z | z) | z
      · exact .inl (.inl (.inl z))
      · exact .inr z
      · exact .inl (.inl (.inr z))
    cases r with
    | dat d => exact DV.mono (fun b o q nb => ⟨q, fun z => nb ((hB' b z).elim (fun y => y) fun y => y.elim)⟩) _ _ res
    | ref j => exact res.elim
    | own zs =>
      obtain ⟨p', qs, e1, e2, e3, e4⟩ := res
      refine ⟨p', qs, e1, e3, e4.mono fun b o q nb => ⟨q, fun z => nb ?_⟩⟩
      rcases hB' b z with y | y
      · exact .inl y
      · have y' : v = .ref b := y
        rw [e1] at y'; cases y'
        exact .inr rfl
  · intro q
    exact p.fdom a (.inl q) (frN a z)
end
end DL
/-! DL12: such calls, as expressions. -/
namespace DL
open PySem PySem.Spec PyProof.Rows L2
section
variable {X : Cx} {c : Cf} {K : PySem.W.Frag} {IO : Nat → Option Addr} {F G : Addr → Prop} {bad : Addr → Prop} {H H1 H2 H' : Hp} {σ : St} {ρ ρ1 ρ2 : Rho} {v : V} {r : Rs} {E : Xn → Prop}
  {e a b : Expr} {es : List Expr} {pos : Pos} {w wa wb wc : DTE} {wr : DTR} {n : Nat}
theorem XnOk.less {xt : Str → Option (Addr × Str)} {cls : Value} {dx : Option Addr} {y : Xn} (h : XnOk K xt F H cls dx y) (s : ∀ a, G a → F a) : XnOk K xt G H cls dx y := by
  obtain ⟨C, f, h1, h2, h3⟩ := h
  refine ⟨C, f, h1, h2, ?_⟩
  split at h3
  · exact h3
  · obtain ⟨p, v, e1, e2, e3⟩ := h3
    exact ⟨p, v, e1, e2, e3.mono fun b o q nb => ⟨q, fun z => nb (s b z)⟩⟩
theorem d_callIo {sp : DSp} {w : W4} {ws : List W4} {t : TA} (hK : X.K = c.K) (h : PE X e (tCall (hs X.K c.xt (n + 1) sp) [] c.Eh t)) (ht : ∀ σ H Q, tDH c (n + 1) (eL (w :: ws)) σ H Q → t σ H Q) : PE X e (tD c (callIoW sp w ws)) := by
  refine h.imp fun σ H Q ⟨F, ρ, E, Qd, rp, hw, xc, k⟩ => ht _ _ _ ⟨F, ρ, E, _, rp, hw, xc, fun vs H1 ρ1 rs as hl n1 p1 h1 f1 q1 => ?_⟩
  show hs X.K c.xt (n + 1) sp (vs ++ []) H1 Q c.Eh
  rw [List.append_nil, hK]
  cases h1 with
  | nil => exact q1.elim
  | @val v0 r0 vs' rs' _ r1 hn ht' =>
    obtain ⟨ds, ρ2, q2, p2, d2, n2⟩ := all_esc p1 ht' f1 q1
    cases r0 with
    | dat d => exact q2.elim
    | own xs => exact (hn xs rfl).elim
    | ref i =>
      have hv : σ[i]? = some (some v0) := r1
      simp only at q2
      split at q2
      · rename_i bo xs e
        obtain ⟨x, us, e1, e2, e3, e4, e5⟩ := p2.own i _ _ e
        rw [hv] at e1; cases e1
        have hO : Own σ ρ2 x := ⟨i, bo, xs, e, hv⟩
        have s : ∀ b, (Bad F σ ρ2 b ∨ b = x) → Bad F σ ρ2 b := fun b z => z.elim id fun y => by subst y; exact .inr hO
        refine hs_io (Qd := fun r ys => Qd r (ρ2.set i (some (.own bo ys)))) p2 e2 (e3.mono fun b o q nb => ⟨q, fun z => nb (s b z)⟩) (d2.mono fun b o q nb => ⟨q, fun z => nb (s b z)⟩) (by simpa using hl) q2 (fun cls dx H' y kp ok ey => ?_) fun v H' r ys A qd => ?_
        · exact xc.nx (n1.trans n2) cls dx H' y (fun b o q nq => kp b o q fun z => nq (by subst z; exact hO)) (ok.less fun b z => ⟨.inl z, fun y => by subst y; exact e4 z⟩) ey
        · obtain ⟨n3, ok3, f3⟩ := A.ref p2 e hv
          exact k _ _ _ _ ((n1.trans n2).trans n3) ok3 (fun a q => (n1.trans n2).fresh (f3 a q)) qd
      · exact q2.elim
  | @own x us xs vs' rs' as' e2 e3 hx ht' =>
    have f2 : ∀ a ∈ as', ¬ FF F (.ref x) (.own xs) a ∧ H a = none := fun a q => ⟨fun z => by
      rcases z with z | z
      · exact (f1 a (List.mem_cons_of_mem _ q)).1 z
      · cases z; exact hx q, (f1 a (List.mem_cons_of_mem _ q)).2⟩
    rw [← FL_own (xs := xs)] at p1 ht' e3
    obtain ⟨ds, ρ2, q2, p2, d2, n2⟩ := all_esc p1 ht' f2 q1
    have hF : ¬ F x := (f1 x List.mem_cons_self).1
    have hx0 : H x = none := (f1 x List.mem_cons_self).2
    have s : ∀ b, (Bad F σ ρ2 b ∨ b = x) → Bad (FF F (.ref x) (.own xs)) σ ρ2 b := fun b z => by
      rcases z with (z | z) | z
      · exact .inl (.inl z)
      · exact .inr z
      · subst z; exact .inl (.inr rfl)
    have e3' := (n2.dvs e3).less (G := FF F (.ref x) (.own xs)) sub_FL
    refine hs_io (Qd := fun r _ => Qd r ρ2) (p2.less (G := F) fun a q => .inl q) e2 (e3'.mono fun b o q nb => ⟨q, fun z => nb (s b z)⟩) (d2.mono fun b o q nb => ⟨q, fun z => nb (s b z)⟩) (by simpa using hl) q2 (fun cls dx H' y kp ok ey => ?_) fun v H' r ys A qd => ?_
    · refine xc cls dx H' y (fun b o q nq => kp b o ((n1.trans n2).keep b o q nq) fun z => ?_) (ok.less fun b z => ⟨.inl z, fun y => by subst y; exact hF z⟩) ey
      subst z
      rw [hx0] at q; cases q
    · obtain ⟨kp, ok3, f3⟩ := A.tmp p2 hF
      refine k _ _ _ _ ⟨fun b o q nq => kp b o ((n1.trans n2).keep b o q nq) fun z => ?_, fun a q => (n1.trans n2).sub a q, fun a o q => ?_⟩ ok3 (fun a q => (n1.trans n2).fresh (f3 a q)) qd
      · subst z
        rw [hx0] at q; cases q
      · obtain ⟨o1, h1⟩ := (n1.trans n2).there a o q
        by_cases ha : a = x
        · subst ha; rw [hx0] at q; cases q
        · exact ⟨o1, kp a o1 h1 ha⟩
end
end DL
/-! DL13: what is walked. -/
namespace DL
open PySem PySem.Spec PyProof.Rows L2
abbrev BH := (Addr → Prop) → Hp → Prop
/-- J walks the data xs while T stands -/
structure Fd (K : PySem.W.Frag) (J : It) (xs : List D) (T : BH) : Prop where
  go : ∀ bad H i, T bad H → i < xs.length → J.go i H
  stop : ∀ bad H, T bad H → J.stop xs.length H
  yld : ∀ bad H i v H' x, T bad H → (∀ a, bad a → H a ≠ none) → xs[i]? = some x → J.yld i H v H' → (∀ a o, H a = some o → H' a = some o) ∧ DV K H' bad v x
def Stay (S : BH) : Prop := ∀ bad H bad' H', S bad H → (∀ a o, H a = some o → ¬ bad a → H' a = some o ∧ ¬ bad' a) → S bad' H'
/-- walked by a for -/
def tDF (c : Cf) (w : DTI) : TI := fun σ H R => ∃ F ρ E k, Rp c.K c.IO F H σ ρ ∧ w E ρ k ∧ XC c F E σ ρ H ∧
  ∀ J H' ρ' xs ck (S : BH), Nx σ ρ H σ ρ' H' → Rp c.K c.IO F H' σ ρ' → Fd c.K J xs S → Stay S → S (Bad F σ ρ') H' → xs.length ≤ sizeLine → k xs ck ρ' → R J H'
/-- walked by a comprehension -/
def tDI (c : Cf) (w : DTI) : TI := fun σ H R => ∃ F ρ E k, Rp c.K c.IO F H σ ρ ∧ w E ρ k ∧ XC c F E σ ρ H ∧
  ∀ J H' ρ' xs ck (T S : BH), Nx σ ρ H σ ρ' H' → Rp c.K c.IO F H' σ ρ' → Fd c.K J xs T → Stay S → S (Bad F σ ρ') H' →
    (∀ F ρ2 σ2 H2, Rp c.K c.IO F H2 σ2 ρ2 → (∀ i s, gt ρ2 i = some s → σ2[i]? = σ[i]?) → S (Bad F σ2 ρ2) H2 → ck ρ2 → T (Bad F σ2 ρ2) H2) → xs.length ≤ sizeLine → k xs ck ρ' → R J H'
theorem _root_.L2.PI.imp {X : Cx} {tg e : Expr} {t t' : TI} (h : PI X tg e t) (i : ∀ σ H Q, t' σ H Q → t σ H Q) : PI X tg e t' := ⟨fun pins s σ H Q I q => h.run pins s σ H Q I (i _ _ _ q)⟩
section
variable {X : Cx} {c : Cf} {K : PySem.W.Frag} {IO : Nat → Option Addr} {F G : Addr → Prop} {bad : Addr → Prop} {H H1 H2 H' : Hp} {σ : St} {ρ ρ1 ρ2 : Rho} {v : V} {r : Rs} {E : Xn → Prop}
  {e a b tg : Expr} {es : List Expr} {pos : Pos} {w wa wb wc : DTE} {wr : DTR} {n : Nat}
/-- what may be walked at x: a list, a tuple -/
def TL (K : PySem.W.Frag) (x : Addr) (xs : List D) : BH := fun bad H => ∃ vs, SqL K H x vs ∧ DVs K H bad vs xs
def TT (K : PySem.W.Frag) (x : Addr) (xs : List D) : BH := fun bad H => ∃ vs, SqT K H x vs ∧ DVs K H bad vs xs
def SL (K : PySem.W.Frag) (x : Addr) (xs : List D) : BH := fun bad H => ∃ vs, SqLb K H bad x vs ∧ DVs K H bad vs xs
def ST (K : PySem.W.Frag) (x : Addr) (xs : List D) : BH := fun bad H => ∃ vs, SqTb K H bad x vs ∧ DVs K H bad vs xs
theorem SL.stay {x : Addr} {xs : List D} : Stay (SL K x xs) := fun bad H bad' H' ⟨vs, h1, h2⟩ k => ⟨vs, h1.mono k, h2.mono k⟩
theorem ST.stay {x : Addr} {xs : List D} : Stay (ST K x xs) := fun bad H bad' H' ⟨vs, h1, h2⟩ k => ⟨vs, h1.mono k, h2.mono k⟩
theorem SL.tl {x : Addr} {xs : List D} (h : SL K x xs bad H) : TL K x xs bad H := let ⟨vs, h1, h2⟩ := h; ⟨vs, h1.sq, h2⟩
theorem ST.tt {x : Addr} {xs : List D} (h : ST K x xs bad H) : TT K x xs bad H := let ⟨vs, h1, h2⟩ := h; ⟨vs, h1.sq, h2⟩
theorem Fd.imp {J : It} {xs : List D} {T T' : BH} (f : Fd K J xs T) (h : ∀ bad H, T' bad H → T bad H) : Fd K J xs T' :=
  ⟨fun b H i t => f.go b H i (h _ _ t), fun b H t => f.stop b H (h _ _ t), fun b H i v H' x t => f.yld b H i v H' x (h _ _ t)⟩
theorem get_ex {α : Type} {xs : List α} {i : Nat} (h : i < xs.length) : ∃ x, xs[i]? = some x := ⟨xs[i], by simp [h]⟩
theorem fd_list {x : Addr} {xs : List D} : Fd K (Itl K x) xs (TL K x xs) where
  go := fun bad H i ⟨vs, h1, h2⟩ hi => by
    obtain ⟨y, hy⟩ := get_ex (xs := vs) (i := i) (by rw [h2.length]; exact hi)
    exact ⟨vs, y, h1, hy⟩
  stop := fun bad H ⟨vs, h1, h2⟩ => ⟨vs, h1, by rw [h2.length]; exact Nat.le_refl _⟩
  yld := fun bad H i v H' y ⟨vs, h1, h2⟩ _ hy ⟨e1, e2⟩ => by
    subst e1
    obtain ⟨w, q1, q2⟩ := h2.get hy
    have := e2 vs h1
    rw [q1] at this; cases this
    exact ⟨fun _ _ e => e, q2⟩
theorem fd_tup {x : Addr} {xs : List D} : Fd K (Itt K x) xs (TT K x xs) where
  go := fun bad H i ⟨vs, h1, h2⟩ hi => by
    obtain ⟨y, hy⟩ := get_ex (xs := vs) (i := i) (by rw [h2.length]; exact hi)
    exact ⟨vs, y, h1, hy⟩
  stop := fun bad H ⟨vs, h1, h2⟩ => ⟨vs, h1, by rw [h2.length]; exact Nat.le_refl _⟩
  yld := fun bad H i v H' y ⟨vs, h1, h2⟩ _ hy ⟨e1, e2⟩ => by
    subst e1
    obtain ⟨w, q1, q2⟩ := h2.get hy
    have := e2 vs h1
    rw [q1] at this; cases this
    exact ⟨fun _ _ e => e, q2⟩
theorem fd_range {lo : Int} {n : Nat} : Fd K (Itr lo n) ((List.range n).map fun (i : Nat) => PyData.int (lo + i)) (fun _ _ => True) where
  go := fun bad H i _ hi => by show i < n; simpa using hi
  stop := fun bad H _ => by show n ≤ _; simp
  yld := fun bad H i v H' y _ _ hy ⟨e1, e2⟩ => by
    subst e1 e2
    simp only [List.getElem?_map, Option.map_eq_some_iff] at hy
    obtain ⟨j, h1, rfl⟩ := hy
    have : j = i := by
      rw [List.getElem?_range (by have := (List.getElem?_eq_some_iff.mp h1).1; simpa using this)] at h1
      exact (Option.some.inj h1).symm
    subst this
    exact ⟨fun _ _ e => e, .int _⟩
/-! ### a list or a tuple -/
def iSeq (K : PySem.W.Frag) (tl : TE) : TI := fun σ H R => tl σ H fun x H1 => ∃ a, x = .ref a ∧ ((∃ xs, SqL K H1 a xs ∧ (xs.length ≤ sizeLine → R (Itl K a) H1)) ∨ (∃ xs, SqT K H1 a xs ∧ (xs.length ≤ sizeLine → R (Itt K a) H1)))
theorem pi_seq {l : Expr} {tl : TE} (hl : PE X l tl) : PI X tg l (iSeq X.K tl) := by
  refine ⟨fun pins s σ H R I h => ?_⟩
  refine thn (hl.run pins s σ H _ I h) fun v s1 ⟨x, H1, I1, r1, a, e, q⟩ => ?_
  subst e
  cases r1
  rcases q with ⟨xs, hq, q⟩ | ⟨xs, hq, q⟩
  · obtain ⟨its, rv, p, hz⟩ := I1.list hq
    refine wpAny_pyIter_list p.isList ⟨s1.heap.objs.size, [s1.heap.objs.size], _, _, H1, rfl, I1.kept (t' := s1.toks) fun b o e => Heap.get?_push_of_some _ e, turn_list a _, ⟨_, Heap.get?_push_size _ rfl, rfl, rfl⟩, fun b hb => ?_, q hz⟩
    obtain rfl : b = s1.heap.objs.size := by simpa using hb
    exact I1.fpOk (Nat.le_refl _) (I1.hok.fresh (Nat.le_refl _))
  · obtain ⟨its, rv, p, hz⟩ := I1.tuple hq
    refine wpAny_pyIter_tuple (show s1.heap.IsTuple a its.toArray from p) ⟨s1.heap.objs.size, [s1.heap.objs.size], _, _, H1, rfl, I1.kept (t' := s1.toks) fun b o e => Heap.get?_push_of_some _ e, turn_tuple a _, ⟨_, Heap.get?_push_size _ rfl, rfl, rfl⟩, fun b hb => ?_, q hz⟩
    obtain rfl : b = s1.heap.objs.size := by simpa using hb
    exact I1.fpOk (Nat.le_refl _) (I1.hok.fresh (Nat.le_refl _))
theorem seqD_cases {d : D} {xs : List D} (h : seqD d = some xs) : d = .list xs ∨ d = .tuple xs := by
  cases d <;> simp [seqD] at h
  · subst h; exact .inl rfl
  · subst h; exact .inr rfl
theorem i_seq (hK : X.K = c.K) (h : PE X e (tD c w)) : PI X tg e (tDI c (asI w)) := by
  refine (pi_seq h).imp fun σ H R ⟨F, ρ, E, k, rp, hw, xc, kk⟩ => ⟨F, ρ, E, _, rp, hw, xc, fun v H1 ρ1 r n1 ok1 f1 q1 => ?_⟩
  rw [hK]
  split at q1
  · rename_i xs ed
    cases r with
    | ref i =>
      have hd := deref_ok ok1.rp' (show R1 c.K H1 (Bad F σ ρ1) σ v (.ref i) from ok1.r1') ed
      obtain ⟨x, vs, rfl, h1, h2⟩ := hd.list
      refine ⟨x, rfl, .inl ⟨vs, h1, fun hz => kk _ _ _ xs _ (TL c.K x xs) (fun _ _ => True) n1 ok1.rp' fd_list (fun _ _ _ _ _ _ => trivial) trivial (fun F2 ρ2 σ2 H2 p2 ag _ ck => ?_) (by rw [← h2.length]; exact hz) q1⟩⟩
      have hv : σ[i]? = some (some (V.ref x)) := ok1.r1
      have ck' : deref ρ2 (.ref i) = some (.list xs) := ck
      have hg : ∃ s, gt ρ2 i = some s := by
        simp only [deref] at ck'
        split at ck' <;> first | exact ⟨_, by assumption⟩ | cases ck'
      obtain ⟨s, hs⟩ := hg
      obtain ⟨y, ws, e1, e2, e3⟩ := (deref_ok (v := .ref x) p2 (show R1 c.K H2 (Bad F2 σ2 ρ2) σ2 (.ref x) (.ref i) from (ag i s hs).trans hv) ck').list
      cases e1
      exact ⟨ws, e2, e3⟩
    | dat d' =>
      have hd' : DV c.K H1 (Bad F σ ρ1) v d' := ok1.r1'
      cases ed
      cases hd' with
      | lst h1 h2 => exact ⟨_, rfl, .inl ⟨_, h1.sq, fun hz => kk _ _ _ xs _ _ (SL c.K _ xs) n1 ok1.rp' fd_list SL.stay ⟨_, h1, h2⟩ (fun F2 ρ2 σ2 H2 p2 ag z ck => z.tl) (by rw [← h2.length]; exact hz) q1⟩⟩
    | own ys =>
      have hd' : DV c.K H1 (Bad F σ ρ1) v (.list ys) := ok1.r1'
      cases ed
      cases hd' with
      | lst h1 h2 => exact ⟨_, rfl, .inl ⟨_, h1.sq, fun hz => kk _ _ _ xs _ _ (SL c.K _ xs) n1 ok1.rp' fd_list SL.stay ⟨_, h1, h2⟩ (fun F2 ρ2 σ2 H2 p2 ag z ck => z.tl) (by rw [← h2.length]; exact hz) q1⟩⟩
  · rename_i xs ed
    split at q1
    · rename_i d'
      have hd' : DV c.K H1 (Bad F σ ρ1) v d' := ok1.r1'
      cases ed
      cases hd' with
      | tup h1 h2 => exact ⟨_, rfl, .inr ⟨_, h1.sq, fun hz => kk _ _ _ xs _ _ (ST c.K _ xs) n1 ok1.rp' fd_tup ST.stay ⟨_, h1, h2⟩ (fun F2 ρ2 σ2 H2 p2 ag z ck => z.tt) (by rw [← h2.length]; exact hz) q1⟩⟩
    · exact q1.elim
  · exact q1.elim
theorem f_seq (hK : X.K = c.K) (h : PE X e (tD c w)) : PI X tg e (tDF c (asF w)) := by
  refine (pi_seq h).imp fun σ H R ⟨F, ρ, E, k, rp, hw, xc, kk⟩ => ⟨F, ρ, E, _, rp, hw, xc, fun v H1 ρ1 r n1 ok1 f1 q1 => ?_⟩
  rw [hK]
  obtain ⟨d, ρ2, q2, p2, d2, n2⟩ := esc_ok ok1 q1
  split at q2
  · rename_i xs es
    rcases seqD_cases es with rfl | rfl
    · cases d2 with
      | lst h1 h2 => exact ⟨_, rfl, .inl ⟨_, h1.sq, fun hz => kk _ _ _ xs _ (SL c.K _ xs) (n1.trans n2) p2 (fd_list.imp fun _ _ => SL.tl) SL.stay ⟨_, h1, h2⟩ (by rw [← h2.length]; exact hz) q2⟩⟩
    · cases d2 with
      | tup h1 h2 => exact ⟨_, rfl, .inr ⟨_, h1.sq, fun hz => kk _ _ _ xs _ (ST c.K _ xs) (n1.trans n2) p2 (fd_tup.imp fun _ _ => ST.tt) ST.stay ⟨_, h1, h2⟩ (by rw [← h2.length]; exact hz) q2⟩⟩
  · exact q2.elim
/-! ### ranges -/
theorem i_rng {p : Pos} {wi : TI} (h : PI X tg e wi)
    (hi : ∀ σ H R, (∃ (F : Addr → Prop) (ρ : Rho) (E : Xn → Prop) (k : List D → (Rho → Prop) → Rho → Prop), Rp c.K c.IO F H σ ρ ∧ wr E ρ (fun rs ρ1 => withs ρ1 rs fun ds => rngD ds fun xs => k xs (fun _ => True) ρ1) ∧ XC c F E σ ρ H ∧
      ∀ (lo : Int) (m : Nat) (H' : Hp) (ρ' : Rho), Nx σ ρ H σ ρ' H' → Rp c.K c.IO F H' σ ρ' → m ≤ sizeLine → k ((List.range m).map fun (i : Nat) => PyData.int (lo + i)) (fun _ => True) ρ' → R (Itr lo m) H') → wi σ H R) :
    PI X tg e (tDI c fun E ρ k => wr E ρ fun rs ρ1 => withs ρ1 rs fun ds => rngD ds fun xs => k xs (fun _ => True) ρ1) ∧
    PI X tg e (tDF c fun E ρ k => wr E ρ fun rs ρ1 => withs ρ1 rs fun ds => rngD ds fun xs => k xs (fun _ => True) ρ1) :=
  ⟨h.imp fun σ H R ⟨F, ρ, E, k, rp, hw, xc, kk⟩ => hi _ _ _ ⟨F, ρ, E, k, rp, hw, xc, fun lo m H' ρ' n1 p1 hm q => kk _ _ _ _ _ (fun _ _ => True) (fun _ _ => True) n1 p1 fd_range (fun _ _ _ _ _ _ => trivial) trivial (fun _ _ _ _ _ _ _ _ => trivial) (by simpa using hm) q⟩,
   h.imp fun σ H R ⟨F, ρ, E, k, rp, hw, xc, kk⟩ => hi _ _ _ ⟨F, ρ, E, k, rp, hw, xc, fun lo m H' ρ' n1 p1 hm q => kk _ _ _ _ _ (fun _ _ => True) n1 p1 fd_range (fun _ _ _ _ _ _ => trivial) trivial (by simpa using hm) q⟩⟩
theorem rng_one (hg : Gl X "range") (hm : X.mg "range" = none) {p : Pos} (ha : PA X [a] (tDH c 1 wr)) (hs : starEach [a] X.env = [(false, eval a X.env)]) :
    PI X tg (.Call (.Name "range" p) [a] [] pos) (tDI c fun E ρ k => wr E ρ fun rs ρ1 => withs ρ1 rs fun ds => rngD ds fun xs => k xs (fun _ => True) ρ1) ∧
    PI X tg (.Call (.Name "range" p) [a] [] pos) (tDF c fun E ρ k => wr E ρ fun rs ρ1 => withs ρ1 rs fun ds => rngD ds fun xs => k xs (fun _ => True) ρ1) :=
  i_rng (p := p) (pi_range1 hg hm ha hs) fun σ H R ⟨F, ρ, E, k, rp, hw, xc, kk⟩ => ⟨F, ρ, E, _, rp, hw, xc, fun vs H1 ρ1 rs as hl n1 p1 h1 f1 q1 => by
    simp only [withs] at q1
    split at q1
    · rename_i ds eds
      have p2 := p1.less (G := F) sub_FL
      have hr := h1.r1s p1 fun a q => (f1 a q).1
      rw [← derefs_rd] at eds
      have hd := derefs_ok p2 hr eds
      unfold rngD at q1
      split at q1
      · obtain ⟨v, rfl, h3⟩ := hd.one
        obtain rfl := h3.int
        refine ⟨_, rfl, q1.1.1, q1.1.2, kk 0 _ _ _ n1 p2 q1.2.1 ?_⟩
        simpa using q1.2.2
      · obtain ⟨v, w, rfl, _⟩ := hd.two
        simp at hl
      · exact q1.elim
    · exact q1.elim⟩
theorem rng_two (hg : Gl X "range") (hm : X.mg "range" = none) {p : Pos} (ha : PA X [a, b] (tDH c 2 wr)) (hs : starEach [a, b] X.env = [(false, eval a X.env), (false, eval b X.env)]) (hs2 : starEach [b] X.env = [(false, eval b X.env)]) :
    PI X tg (.Call (.Name "range" p) [a, b] [] pos) (tDI c fun E ρ k => wr E ρ fun rs ρ1 => withs ρ1 rs fun ds => rngD ds fun xs => k xs (fun _ => True) ρ1) ∧
    PI X tg (.Call (.Name "range" p) [a, b] [] pos) (tDF c fun E ρ k => wr E ρ fun rs ρ1 => withs ρ1 rs fun ds => rngD ds fun xs => k xs (fun _ => True) ρ1) :=
  i_rng (p := p) (pi_range2 hg hm ha hs hs2) fun σ H R ⟨F, ρ, E, k, rp, hw, xc, kk⟩ => ⟨F, ρ, E, _, rp, hw, xc, fun vs H1 ρ1 rs as hl n1 p1 h1 f1 q1 => by
    simp only [withs] at q1
    split at q1
    · rename_i ds eds
      have p2 := p1.less (G := F) sub_FL
      have hr := h1.r1s p1 fun a q => (f1 a q).1
      rw [← derefs_rd] at eds
      have hd := derefs_ok p2 hr eds
      unfold rngD at q1
      split at q1
      · obtain ⟨v, rfl, h1⟩ := hd.one
        simp at hl
      · obtain ⟨v, w, rfl, h3, h4⟩ := hd.two
        obtain rfl := h3.int
        obtain rfl := h4.int
        exact ⟨_, _, rfl, q1.1, kk _ _ _ _ n1 p2 q1.2.1 q1.2.2⟩
      · exact q1.elim
    · exact q1.elim⟩
end
end DL
/-! DL14: targets, comprehensions. -/
namespace DL
open PySem PySem.Spec PyProof.Rows L2
section
variable {X : Cx} {c : Cf} {K : PySem.W.Frag} {IO : Nat → Option Addr} {F G : Addr → Prop} {bad : Addr → Prop} {H H1 H2 H' : Hp} {σ σ1 : St} {ρ ρ1 ρ2 : Rho} {v : V} {r : Rs} {E : Xn → Prop}
  {e a b tg : Expr} {es : List Expr} {pos : Pos} {w wa wb wc : DTE} {wr : DTR} {n : Nat}
theorem gt_big {ρ : Rho} {i : Nat} (h : ρ.length ≤ i) : gt ρ i = none := by
  cases q : gt ρ i with
  | none => rfl
  | some s => have := gt_lt q; omega
theorem gt_set_none {ρ : Rho} {i : Nat} : gt (ρ.set i none) i = none := by
  by_cases h : i < ρ.length
  · exact gt_set_self h
  · exact gt_big (by simp; omega)
theorem get_set_ne {α : Type} {l : List α} {i j : Nat} {x : α} (h : j ≠ i) : (l.set i x)[j]? = l[j]? := by
  rw [List.getElem?_set_ne (Ne.symm h)]
/-- the slots of one state, among those of another -/
theorem Rp.sub {σ1 : St} {ρ1 : Rho} (p : Rp K IO F H σ ρ) (hl : ρ1.length = σ1.length) (h : ∀ i s, gt ρ1 i = some s → gt ρ i = some s ∧ σ1[i]? = σ[i]?) :
    Rp K IO F H σ1 ρ1 ∧ Nx σ ρ H σ1 ρ1 H := by
  have ho : ∀ a, Own σ1 ρ1 a → Own σ ρ a := fun a ⟨i, io, xs, h1, h2⟩ => ⟨i, io, xs, (h i _ h1).1, by rw [← (h i _ h1).2]; exact h2⟩
  have n : Nx σ ρ H σ1 ρ1 H := ⟨fun _ _ e _ => e, fun a q => .inl (ho a q), fun _ o e => ⟨o, e⟩⟩
  refine ⟨⟨fun i d e => ?_, fun i io xs e => ?_, fun i j io jo xs ys a h1 h2 h3 h4 => ?_, p.fdom, hl⟩, n⟩
  · obtain ⟨v, h1, h2⟩ := p.dat i d (h i _ e).1
    exact ⟨v, by rw [(h i _ e).2]; exact h1, n.dv h2⟩
  · obtain ⟨a, vs, h1, h2, h3, h4, h5⟩ := p.own i io xs (h i _ e).1
    exact ⟨a, vs, by rw [(h i _ e).2]; exact h1, h2, n.dvs h3, h4, h5⟩
  · exact p.inj i j io jo xs ys a (h i _ h1).1 (h j _ h2).1 (by rw [← (h i _ h1).2]; exact h3) (by rw [← (h j _ h2).2]; exact h4)
/-- a name is given a datum -/
theorem Rp.put {i : Nat} {d : D} (p : Rp K IO F H σ ρ) (dv : DV K H (Bad F σ ρ) v d) : Rp K IO F H (σ.set i (some v)) (ρ.set i (some (.dat d))) ∧ Nx σ ρ H (σ.set i (some v)) (ρ.set i (some (.dat d))) H := by
  have ho : ∀ a, Own (σ.set i (some v)) (ρ.set i (some (.dat d))) a → Own σ ρ a := fun a ⟨j, io, xs, h1, h2⟩ => by
    have hj : j ≠ i := by
      rintro rfl
      have hl := gt_lt h1
      rw [List.length_set] at hl
      rw [gt_set_self hl] at h1
      cases h1
    rw [gt_set_ne hj] at h1
    rw [get_set_ne hj] at h2
    exact ⟨j, io, xs, h1, h2⟩
  have n : Nx σ ρ H (σ.set i (some v)) (ρ.set i (some (.dat d))) H := ⟨fun _ _ e _ => e, fun a q => .inl (ho a q), fun _ o e => ⟨o, e⟩⟩
  have ne : ∀ {j s}, gt (ρ.set i (some (.dat d))) j = some s → (∀ d, s ≠ .dat d) → j ≠ i := fun {j s} h1 hs => by
    rintro rfl
    have hl := gt_lt h1
    rw [List.length_set] at hl
    rw [gt_set_self hl] at h1
    cases h1
    exact hs _ rfl
  refine ⟨⟨fun j d' e => ?_, fun j io xs e => ?_, fun j l io jo xs ys a h1 h2 h3 h4 => ?_, p.fdom, by simpa using p.len⟩, n⟩
  · by_cases hj : j = i
    · subst hj
      have hl := gt_lt e
      rw [List.length_set] at hl
      rw [gt_set_self hl] at e
      cases e
      exact ⟨v, by rw [List.getElem?_set_self (by rw [← p.len]; exact hl)], n.dv dv⟩
    · rw [gt_set_ne hj] at e
      obtain ⟨u, h1, h2⟩ := p.dat j d' e
      exact ⟨u, by rw [get_set_ne hj]; exact h1, n.dv h2⟩
  · have hj := ne e (by simp)
    rw [gt_set_ne hj] at e
    obtain ⟨a, vs, h1, h2, h3, h4, h5⟩ := p.own j io xs e
    exact ⟨a, vs, by rw [get_set_ne hj]; exact h1, h2, n.dvs h3, h4, h5⟩
  · have hj := ne h1 (by simp)
    have hl := ne h2 (by simp)
    rw [gt_set_ne hj] at h1
    rw [gt_set_ne hl] at h2
    rw [get_set_ne hj] at h3
    rw [get_set_ne hl] at h4
    exact p.inj j l _ _ _ _ a h1 h2 h3 h4
/-- the heap grew -/
theorem Rp.ext (p : Rp K IO F H σ ρ) (k : ∀ a o, H a = some o → H' a = some o) : Rp K IO F H' σ ρ ∧ Nx σ ρ H σ ρ H' := by
  have n : Nx σ ρ H σ ρ H' := ⟨fun a o e _ => k a o e, fun a q => .inl q, fun a o e => ⟨o, k a o e⟩⟩
  refine ⟨⟨fun i d e => ?_, fun i io xs e => ?_, p.inj, fun a q => ?_, p.len⟩, n⟩
  · obtain ⟨u, h1, h2⟩ := p.dat i d e
    exact ⟨u, h1, n.dv h2⟩
  · obtain ⟨a, vs, h1, h2, h3, h4, h5⟩ := p.own i io xs e
    exact ⟨a, vs, h1, k _ _ h2, n.dvs h3, h4, h5⟩
  · have := p.fdom a q
    cases e : H a with
    | none => exact (this e).elim
    | some o => rw [k a o e]; simp
/-- one more foreign address, a new one -/
theorem Rp.guard {x : Addr} (p : Rp K IO F H σ ρ) (hx : H x = none) (k : ∀ a o, H a = some o → H' a = some o) (hx' : H' x ≠ none) : Rp K IO (fun b => F b ∨ b = x) H' σ ρ := by
  have km : ∀ a o, H a = some o → ¬ Bad F σ ρ a → H' a = some o ∧ ¬ Bad (fun b => F b ∨ b = x) σ ρ a := fun a o e nb => ⟨k a o e, fun q => by
    rcases q with (q | q) | q
    · exact nb (.inl q)
    · subst q; rw [hx] at e; cases e
    · exact nb (.inr q)⟩
  refine ⟨fun i d e => ?_, fun i io xs e => ?_, p.inj, fun a q => ?_, p.len⟩
  · obtain ⟨u, h1, h2⟩ := p.dat i d e
    exact ⟨u, h1, h2.mono km⟩
  · obtain ⟨a, vs, h1, h2, h3, h4, h5⟩ := p.own i io xs e
    refine ⟨a, vs, h1, k _ _ h2, h3.mono km, fun q => ?_, h5⟩
    rcases q with q | q
    · exact h4 q
    · subst q; rw [hx] at h2; cases h2
  · rcases q with q | q
    · have := p.fdom a q
      cases e : H a with
      | none => exact (this e).elim
      | some o => rw [k a o e]; simp
    · subst q; exact hx'
/-- a foreign address is written -/
theorem Rp.wrF {x : Addr} {o : HO} (p : Rp K IO F H σ ρ) (hx : F x) : Rp K IO F (upd H x o) σ ρ := by
  have km : ∀ a o', H a = some o' → ¬ Bad F σ ρ a → upd H x o a = some o' ∧ ¬ Bad F σ ρ a := fun a o' e nb => ⟨by rw [upd_ne (fun q => nb (by subst q; exact .inl hx))]; exact e, nb⟩
  refine ⟨fun i d e => ?_, fun i io xs e => ?_, p.inj, fun a q => ?_, p.len⟩
  · obtain ⟨u, h1, h2⟩ := p.dat i d e
    exact ⟨u, h1, h2.mono km⟩
  · obtain ⟨a, vs, h1, h2, h3, h4, h5⟩ := p.own i io xs e
    exact ⟨a, vs, h1, by rw [upd_ne (fun q => h4 (by subst q; exact hx))]; exact h2, h3.mono km, h4, h5⟩
  · by_cases ha : a = x
    · subst ha; rw [upd_same]; simp
    · rw [upd_ne ha]; exact p.fdom a q
theorem gt_wipe : ∀ (is : List Nat) (ρ : Rho) (j : Nat), gt (wipeR ρ is) j = if j ∈ is then none else gt ρ j
  | [], _, _ => by simp [wipeR]
  | i :: is, ρ, j => by
    simp only [wipeR]
    by_cases hj : j = i
    · subst hj; rw [gt_set_none]; simp
    · rw [gt_set_ne hj, gt_wipe is ρ j]
      simp [hj]
theorem len_wipe : ∀ (is : List Nat) (ρ : Rho), (wipeR ρ is).length = ρ.length
  | [], _ => rfl
  | i :: is, ρ => by simp only [wipeR, List.length_set]; exact len_wipe is ρ
theorem len_rest : ∀ (is : List Nat) (ρ0 ρ : Rho), (restR ρ0 ρ is).length = ρ.length
  | [], _, _ => rfl
  | i :: is, ρ0, ρ => by simp only [restR, List.length_set]; exact len_rest is ρ0 ρ
theorem gt_rest : ∀ (is : List Nat) (ρ0 ρ : Rho) (j : Nat), ρ0.length = ρ.length → gt (restR ρ0 ρ is) j = if j ∈ is then gt ρ0 j else gt ρ j
  | [], _, _, _, _ => by simp [restR]
  | i :: is, ρ0, ρ, j, hl => by
    simp only [restR]
    by_cases hj : j = i
    · subst hj
      by_cases h : j < (restR ρ0 ρ is).length
      · rw [gt_set_self h]; simp
      · rw [gt_big (by simpa using h), gt_big (by rw [len_rest] at h; omega)]; simp
    · rw [gt_set_ne hj, gt_rest is ρ0 ρ j hl]
      simp [hj]
theorem wipe_len (is : List Nat) (σ : St) : (wipe σ is).length = σ.length := wipe_length σ is
theorem Rp.wipe (is : List Nat) (p : Rp K IO F H σ ρ) : Rp K IO F H (L2.wipe σ is) (wipeR ρ is) ∧ Nx σ ρ H (L2.wipe σ is) (wipeR ρ is) H := by
  refine p.sub (by rw [len_wipe, wipe_len]; exact p.len) fun i s e => ?_
  rw [gt_wipe] at e
  split at e
  · cases e
  · rename_i hi
    exact ⟨e, wipe_out hi⟩
theorem wipe_in : ∀ {is : List Nat} {σ : St} {j : Nat}, j ∈ is → (L2.wipe σ is)[j]? = if j < σ.length then some none else none
  | i :: is, σ, j, h => by
    simp only [L2.wipe]
    by_cases hj : j = i
    · subst hj
      by_cases hl : j < σ.length
      · rw [List.getElem?_set_self (by rw [wipe_len]; exact hl), if_pos hl]
      · rw [List.getElem?_eq_none (by rw [List.length_set, wipe_len]; omega), if_neg hl]
    · rw [get_set_ne hj]
      exact wipe_in ((List.mem_cons.mp h).resolve_left hj)
theorem wipe_eq {is : List Nat} {σ σ' : St} (hl : σ'.length = σ.length) (h : ∀ j, j ∉ is → σ'[j]? = σ[j]?) : L2.wipe σ' is = L2.wipe σ is := by
  refine List.ext_getElem? fun j => ?_
  by_cases hj : j ∈ is
  · rw [wipe_in hj, wipe_in hj, hl]
  · rw [wipe_out hj, wipe_out hj, h j hj]
/-! ### targets -/
mutual
def gOf (K : PySem.W.Frag) : Tn → TG
  | .name i => gName i
  | .tup ts => gTup K ts.length (gsOf K ts)
def gsOf (K : PySem.W.Frag) : List Tn → TGs
  | [] => gNil
  | t :: ts => gCons (gOf K t) (gsOf K ts)
end
/-- the names of a target -/
def tnNames : Tn → List Nat
  | .name i => [i]
  | .tup [.name i, .name j] => [i, j]
  | .tup [.name i, .name j, .name l] => [i, j, l]
  | _ => []
theorem asn_ok {t : Tn} {d : D} {k : Rho → Prop} {Q : St → Hp → Prop} (p : Rp K IO F H σ ρ) (dv : DV K H (Bad F σ ρ) v d) (h : asnN t d ρ k)
    (q : ∀ σ' ρ', (∀ j, j ∉ tnNames t → σ'[j]? = σ[j]?) → σ'.length = σ.length → Rp K IO F H σ' ρ' → Nx σ ρ H σ' ρ' H → k ρ' → Q σ' H) : gOf K t v σ H Q := by
  unfold asnN at h
  split at h
  · rename_i i
    have h' : k (ρ.set i (some (.dat d))) := by split at h <;> first | exact h.elim | exact h
    obtain ⟨p1, n1⟩ := p.put (i := i) dv
    exact q _ _ (fun j hj => get_set_ne (by simpa [tnNames] using hj)) (by simp) p1 n1 h'
  · rename_i i j a b
    cases dv with
    | tup h1 h2 =>
      cases h2 with
      | cons d1 r1 =>
        cases r1 with
        | cons d2 r2 =>
          cases r2
          have h' : k ((ρ.set i (some (.dat a))).set j (some (.dat b))) := by split at h <;> first | exact h.elim | exact h
          obtain ⟨p1, n1⟩ := p.put (i := i) d1
          obtain ⟨p2, n2⟩ := p1.put (i := j) (n1.dv d2)
          exact ⟨_, _, rfl, h1.sq, rfl, _, _, rfl, _, _, rfl, rfl, q _ _ (fun l hl => by
            simp only [tnNames, List.mem_cons, not_or] at hl
            rw [get_set_ne hl.2.1, get_set_ne hl.1]) (by simp) p2 (n1.trans n2) h'⟩
  · rename_i i j l a b d
    cases dv with
    | tup h1 h2 =>
      cases h2 with
      | cons d1 r1 =>
        cases r1 with
        | cons d2 r2 =>
          cases r2 with
          | cons d3 r3 =>
            cases r3
            have h' : k (((ρ.set i (some (.dat a))).set j (some (.dat b))).set l (some (.dat d))) := by split at h <;> first | exact h.elim | exact h
            obtain ⟨p1, n1⟩ := p.put (i := i) d1
            obtain ⟨p2, n2⟩ := p1.put (i := j) (n1.dv d2)
            obtain ⟨p3, n3⟩ := p2.put (i := l) ((n1.trans n2).dv d3)
            exact ⟨_, _, rfl, h1.sq, rfl, _, _, rfl, _, _, rfl, _, _, rfl, rfl, q _ _ (fun m hm => by
              simp only [tnNames, List.mem_cons, not_or] at hm
              rw [get_set_ne hm.2.2.1, get_set_ne hm.2.1, get_set_ne hm.1]) (by simp) p3 ((n1.trans n2).trans n3) h'⟩
  · exact h.elim
/-! ### comprehensions -/
def Cf.quiet (c : Cf) : Cf := { c with Eh := fun _ _ _ => False }
theorem XC.none {F : Addr → Prop} {σ : St} {ρ : Rho} {H : Hp} : XC c.quiet F (fun _ => False) σ ρ H := fun _ _ _ _ _ _ z => z.elim
theorem comp_imp {own : List (Str × Nat)} {t : Tn} {wi : DTI} {wt : DTT} {we : DTE} (hnm : ∀ j ∈ tnNames t, j ∈ own.map (·.2)) :
    (∀ σ H Q, tD c (fun E ρ Q => wi E ρ fun xs ck ρ1 => noOwn ρ1 (own.map (·.2)) ∧ compL (asnN t) wt we ck (own.map (·.2)) (fun acc ρ2 => Q (.own acc) (restR ρ1 ρ2 (own.map (·.2)))) xs [] (wipeR ρ1 (own.map (·.2)))) σ H Q →
      tLc (tDI c wi) (gOf c.K t) (tDT c.quiet wt) (tD c.quiet we) (own.map (·.2)) σ H Q) := by
  intro σ H Q ⟨F, ρ, E, Qd, rp, hw, xc, kk⟩
  generalize hO : own.map (·.2) = O at *
  refine ⟨F, ρ, E, _, rp, hw, xc, fun J H1 ρ1 xs ck T S n1 p1 fd stay s1 again hz ⟨no, hw2⟩ L hD => ?_⟩
  have kD : ∀ a o, H1 a = some o → upd H1 L (.lst []) a = some o := up_new hD
  obtain ⟨pw, nw⟩ := p1.wipe O
  have wf : Walk J xs.length (fun H => ∃ bad, T bad H) (fun i H x H' => J.yld i H x H') := ⟨fun i H hi ⟨bad, t⟩ => fd.go bad H i t hi, fun H ⟨bad, t⟩ => fd.stop bad H t, fun _ _ _ _ _ _ y => y⟩
  -- the list at L grows; all else as the data say
  let Pv : Nat → Hp → Prop := fun i H => ∃ ρt acc vs, Rp c.K c.IO (fun b => F b ∨ b = L) H (L2.wipe σ O) ρt ∧ (∀ j ∈ O, gt ρt j = none) ∧ Nx σ ρ1 H1 (L2.wipe σ O) ρt H ∧ H L = some (.lst vs) ∧ DVs c.K H (Bad (fun b => F b ∨ b = L) (L2.wipe σ O) ρt) vs acc ∧ acc.length ≤ i ∧
    S (Bad (fun b => F b ∨ b = L) (L2.wipe σ O) ρt) H ∧ compL (asnN t) wt we ck O (fun acc ρ2 => Qd (.own acc) (restR ρ1 ρ2 O)) (xs.drop i) acc ρt
  have agree : ∀ {ρt : Rho}, (∀ j ∈ O, gt ρt j = none) → ∀ i s, gt ρt i = some s → (L2.wipe σ O)[i]? = σ[i]? := fun {ρt} hn i s e => by
    by_cases hi : i ∈ O
    · rw [hn i hi] at e; cases e
    · exact wipe_out hi
  have getT : ∀ {ρt : Rho} {H : Hp}, Rp c.K c.IO (fun b => F b ∨ b = L) H (L2.wipe σ O) ρt → (∀ j ∈ O, gt ρt j = none) → S (Bad (fun b => F b ∨ b = L) (L2.wipe σ O) ρt) H → ck ρt → T (Bad (fun b => F b ∨ b = L) (L2.wipe σ O) ρt) H := fun {ρt H} p hn s hck =>
    again _ ρt _ H p (agree hn) s hck
  have xsAt : ∀ {i : Nat} (h : i < xs.length), xs.drop i = xs[i] :: xs.drop (i + 1) := fun h => List.drop_eq_getElem_cons h
  have hw3 : ∀ {i : Nat} {acc : List D} {ρt : Rho}, compL (asnN t) wt we ck O (fun acc ρ2 => Qd (.own acc) (restR ρ1 ρ2 O)) (xs.drop i) acc ρt → ck ρt := fun {i acc ρt} h => by
    by_cases hlt : i < xs.length
    · rw [xsAt hlt] at h; exact h.1
    · rw [List.drop_eq_nil_of_le (by omega)] at h; exact h.1
  have wiped : ∀ (ρ' : Rho), ∀ j ∈ O, gt (wipeR ρ' O) j = none := fun ρ' j hj => by rw [gt_wipe, if_pos hj]
  refine lc_it wf Pv ?_ (fun i H _ ⟨ρt, acc, vs, p, hn, n, hd, dv, hl, s, cw⟩ => ⟨_, getT p hn s (hw3 cw)⟩) (fun i x H H2 hi ⟨ρt, acc, vs, p, hn, n, hd, dv, hl, s, cw⟩ y => ?_) fun H ⟨ρt, acc, vs, p, hn, n, hd, dv, hl, s, cw⟩ => ?_
  · have pg := pw.guard hD kD (by rw [upd_same]; simp)
    refine ⟨wipeR ρ1 O, [], [], pg, wiped ρ1, ⟨fun a o e q => kD a o (nw.keep a o e q), nw.sub, fun a o e => ⟨o, kD a o e⟩⟩, upd_same, .nil, Nat.le_refl _, ?_, by simpa using hw2⟩
    refine stay _ _ _ _ s1 fun a o e nb => ⟨kD a o e, fun q => ?_⟩
    rcases q with (q | q) | q
    · exact nb (.inl q)
    · subst q; rw [hD] at e; cases e
    · rcases nw.sub a q with z | z
      · exact nb (.inr z)
      · rw [e] at z; cases z
  · -- a turn
    have hck := hw3 cw
    obtain ⟨d, hdx⟩ := get_ex hi
    rw [xsAt hi] at cw
    obtain ⟨_, cw⟩ := cw
    have e0 : xs[i] = d := by rw [List.getElem?_eq_getElem hi] at hdx; exact Option.some.inj hdx
    rw [e0] at cw
    obtain ⟨k2, dx⟩ := fd.yld _ H i x H2 d (getT p hn s hck) (fun a q => p.bad_dom q) hdx y
    obtain ⟨p2, n2⟩ := p.ext k2
    refine asn_ok p2 dx cw fun σ3 ρ3 dif len3 p3 n3 q3 => ?_
    have ws : L2.wipe σ3 O = L2.wipe σ O := wipe_eq (by rw [len3, wipe_len]) fun j hj => by
      rw [dif j (fun q => hj (hnm j q)), wipe_out hj]
    have ww : L2.wipe σ3 O = L2.wipe (L2.wipe σ O) O := by
      rw [ws]
      exact (wipe_eq (by rw [wipe_len]) fun j hj => wipe_out hj).symm
    -- what is to be shown behind the turn
    have fin : ∀ (H4 : Hp) (ρ4 : Rho) (acc' : List DL.D) (vs' : List V), Rp c.K c.IO (fun b => F b ∨ b = L) H4 σ3 ρ4 → Nx (L2.wipe σ O) ρt H σ3 ρ4 H4 → DVs c.K H4 (Bad (fun b => F b ∨ b = L) σ3 ρ4) vs' acc' → acc'.length ≤ i + 1 →
        compL (asnN t) wt we ck O (fun acc ρ2 => Qd (.own acc) (restR ρ1 ρ2 O)) (xs.drop (i + 1)) acc' (wipeR ρ4 O) → Pv (i + 1) (upd H4 L (.lst vs')) := fun H4 ρ4 acc' vs' p4 n4 dv4 hl4 cw4 => by
      obtain ⟨p5, n5⟩ := p4.wipe O
      rw [ws] at p5 n5
      have nA := n4.trans n5
      have nB := n.trans nA
      have bL : ∀ {ρ' : Rho} {σ' : St}, Bad (fun b => F b ∨ b = L) σ' ρ' L := .inl (.inr rfl)
      refine ⟨wipeR ρ4 O, acc', vs', p5.wrF (.inr rfl), wiped ρ4, ⟨fun a o e q => ?_, nB.sub, fun a o e => ?_⟩, upd_same, (n5.dvs dv4).mono fun a o e nb => ⟨?_, nb⟩, hl4, ?_, cw4⟩
      · rw [upd_ne (fun z => by subst z; rw [hD] at e; cases e)]
        exact nB.keep a o e q
      · by_cases ha : a = L
        · subst ha; rw [hD] at e; cases e
        · rw [upd_ne ha]; exact nB.there a o e
      · rw [upd_ne (fun z => nb (by subst z; exact bL))]; exact e
      · refine stay _ _ _ _ s fun a o e nb => ?_
        obtain ⟨h1, h2⟩ := nA.bad (F := fun b => F b ∨ b = L) a o e nb
        exact ⟨by rw [upd_ne (fun z => nb (by subst z; exact bL))]; exact h1, h2⟩
    have nO : ∀ {σ' : St} {ρ' : Rho} {H' : Hp}, Rp c.K c.IO (fun b => F b ∨ b = L) H' σ' ρ' → ¬ Own σ' ρ' L := fun p q => p.own_ne q (.inr rfl)
    have hD3 : H2 L = some (.lst vs) := k2 _ _ hd
    have dv3 := (n2.trans n3).dvs (F := fun b => F b ∨ b = L) dv
    refine ⟨ws, (fun b => F b ∨ b = L), ρ3, (fun _ => False), _, p3, q3, XC.none, fun b H3 ρ4 n4 p4 q4 => ?_⟩
    have hD4 := n4.keep _ _ hD3 (nO p3)
    have dv4 := n4.dvs dv3
    cases b with
    | false =>
      have := fin H3 ρ4 acc vs p4 ((n2.trans n3).trans n4) dv4 (by omega) q4
      have e : upd H3 L (.lst vs) = H3 := by
        funext a
        by_cases ha : a = L
        · subst ha; rw [upd_same, hD4]
        · rw [upd_ne ha]
      rw [e] at this
      exact this
    | true =>
      refine ⟨(fun b => F b ∨ b = L), ρ4, (fun _ => False), _, p4, q4, XC.none, fun v H4 ρ5 r n5 ok5 f5 q5 => ?_⟩
      obtain ⟨d', ρ6, q6, p6, dv6, n6⟩ := esc_ok ok5 q5
      have hD5 := n5.keep _ _ hD4 (nO p4)
      have dv5 := (n5.trans n6).dvs dv4
      refine ⟨vs, hD5, by rw [dv.length]; omega, ?_⟩
      exact fin H4 ρ6 (acc ++ [d']) (vs ++ [v]) p6 ((((n2.trans n3).trans n4).trans n5).trans n6) (dv5.append (.cons dv6 .nil)) (by simp; omega) q6
  · -- the end
    rw [List.drop_eq_nil_of_le (Nat.le_refl _)] at cw
    obtain ⟨_, q⟩ := cw
    have hlen : ρ1.length = ρt.length := by
      have h1 := p1.len
      have h2 := p.len
      rw [wipe_len] at h2
      omega
    have gr : ∀ j, gt (restR ρ1 ρt O) j = if j ∈ O then gt ρ1 j else gt ρt j := fun j => gt_rest O ρ1 ρt j hlen
    have ownE : ∀ a, Own σ (restR ρ1 ρt O) a → Own (L2.wipe σ O) ρt a := fun a ⟨j, io, zs, h1, h2⟩ => by
      rw [gr] at h1
      split at h1
      · rename_i hj; exact (no j hj io zs h1).elim
      · rename_i hj; exact ⟨j, io, zs, h1, by rw [wipe_out hj]; exact h2⟩
    have nr : Nx σ ρ1 H1 σ (restR ρ1 ρt O) H := ⟨n.keep, fun a q => n.sub a (ownE a q), n.there⟩
    have badE : ∀ a, ¬ Bad (fun b => F b ∨ b = L) (L2.wipe σ O) ρt a → ¬ Bad (FF F (.ref L) (.own acc)) σ (restR ρ1 ρt O) a := fun a nb q => by
      rcases q with (q | q) | q
      · exact nb (.inl (.inl q))
      · cases q; exact nb (.inl (.inr rfl))
      · exact nb (.inr (ownE a q))
    have hD0 : ∀ a o, H1 a = some o → a ≠ L := fun a o e z => by subst z; rw [hD] at e; cases e
    refine kk (.ref L) H (restR ρ1 ρt O) (.own acc) (n1.trans nr) ⟨⟨fun j d' e => ?_, fun j io zs e => ?_, fun j l io jo zs zs' a h1 h2 h3 h4 => ?_, fun a q => ?_, ?_⟩, ⟨L, vs, rfl, hd, dv.mono fun a o e nb => ⟨e, badE a nb⟩⟩, fun a q z => ?_⟩ (fun a q => n1.fresh (by cases q; exact hD)) q
    · rw [gr] at e
      split at e
      · obtain ⟨u, h1, h2⟩ := p1.dat j d' e
        refine ⟨u, h1, h2.mono fun a o e nb => ?_⟩
        obtain ⟨h3, h4⟩ := nr.bad (F := F) a o e nb
        exact ⟨h3, fun q => by
          rcases q with (q | q) | q
          · exact h4 (.inl q)
          · cases q; exact hD0 L o e rfl
          · exact h4 (.inr q)⟩
      · rename_i hj
        obtain ⟨u, h1, h2⟩ := p.dat j d' e
        exact ⟨u, by rw [← wipe_out hj]; exact h1, h2.mono fun a o e nb => ⟨e, badE a nb⟩⟩
    · rw [gr] at e
      split at e
      · rename_i hj; exact (no j hj io zs e).elim
      · rename_i hj
        obtain ⟨a, ws, h1, h2, h3, h4, h5⟩ := p.own j io zs e
        exact ⟨a, ws, by rw [← wipe_out hj]; exact h1, h2, h3.mono fun a o e nb => ⟨e, badE a nb⟩, fun z => h4 (z.elim .inl fun y => by cases y; exact .inr rfl), h5⟩
    · rw [gr] at h1 h2
      split at h1
      · rename_i hj; exact (no j hj io zs h1).elim
      · rename_i hj
        split at h2
        · rename_i hl'; exact (no l hl' jo zs' h2).elim
        · rename_i hl'
          exact p.inj j l io jo zs zs' a h1 h2 (by rw [wipe_out hj]; exact h3) (by rw [wipe_out hl']; exact h4)
    · rcases q with q | q
      · exact p.fdom a (.inl q)
      · cases q; rw [hd]; simp
    · rw [len_rest, ← hlen]; exact p1.len
    · cases q; exact p1.fdom L z hD
end
end DL
/-! DL15: statements: what they mean at the level of data. -/
namespace DL
open PySem PySem.Spec PyProof.Rows L2
structure DEn where
  nx : Rho → Prop
  rt : Rs → Rho → Prop
  bk : Rho → Prop
  ct : Rho → Prop
abbrev DTS := (Xn → Prop) → DEn → Rho → Prop
/-- the name holds a list of its own -/
def isOwn (ρ : Rho) (i : Nat) : Prop := match gt ρ i with
  | some (.own _ _) => True
  | _ => False
/-- a name is given a result -/
def putR' (i : Nat) : Rs → Rho → (Rho → Prop) → Prop
  | .own xs, ρ, k => k (ρ.set i (some (.own false xs)))
  | .dat d, ρ, k => k (ρ.set i (some (.dat d)))
  | .ref j, ρ, k => esc (.ref j) ρ fun d ρ1 => k (ρ1.set i (some (.dat d)))
def putR (i : Nat) (r : Rs) (ρ : Rho) (k : Rho → Prop) : Prop := match gt ρ i with
  | some (.own true _) => False
  | _ => putR' i r ρ k
mutual
/-- a result goes to a target -/
def asn (Γ : Gam) : Ta → Rs → (Xn → Prop) → Rho → (Rho → Prop) → Prop
  | .name i, r, _, ρ, k => putR i r ρ k
  | .sub i ix, r, E, ρ, k => esc r ρ fun d ρ1 => isOwn ρ1 i ∧ (wp Γ ix).e E ρ1 fun q ρ2 => match q with
    | .dat (.int j) => match gt ρ2 i with
      | some (.own b xs) => match ixN xs.length j with
        | some n => k (ρ2.set i (some (.own b (xs.set n d))))
        | none => False
      | _ => False
    | _ => False
  | .tup ts, r, E, ρ, k => match r with
    | .dat (.tuple ds) => ds.length = ts.length ∧ asns Γ ts (ds.map .dat) E ρ k
    | _ => False
def asns (Γ : Gam) : List Ta → List Rs → (Xn → Prop) → Rho → (Rho → Prop) → Prop
  | [], rs, _, ρ, k => match rs with
    | [] => k ρ
    | _ => False
  | t :: ts, rs, E, ρ, k => match rs with
    | r :: rs => asn Γ t r E ρ fun ρ1 => asns Γ ts rs E ρ1 k
    | [] => False
end
/-- names that are read become data -/
def settle : List Rs → Rho → (List Rs → Rho → Prop) → Prop
  | [], ρ, k => k [] ρ
  | .ref i :: rs, ρ, k => esc (.ref i) ρ fun d ρ1 => settle rs ρ1 fun rs' ρ2 => k (.dat d :: rs') ρ2
  | r :: rs, ρ, k => settle rs ρ fun rs' ρ2 => k (r :: rs') ρ2
def forL (g : D → Rho → (Rho → Prop) → Prop) (b : DEn → Rho → Prop) (d : DEn) : List D → Rho → Prop
  | [], ρ => d.nx ρ
  | x :: xs, ρ => g x ρ fun ρ1 => b { nx := forL g b d xs, ct := forL g b d xs, bk := d.nx, rt := d.rt } ρ1
def whileP (t : DTT) (b : DTS) : DTS := fun E d ρ => ∃ I : Nat → Rho → Prop, (∃ m, I m ρ) ∧ ∀ m ρ, I m ρ →
  t E ρ fun q ρ1 => if q = true then b E { nx := fun ρ' => ∃ m', m' < m ∧ I m' ρ', ct := fun ρ' => ∃ m', m' < m ∧ I m' ρ', bk := d.nx, rt := d.rt } ρ1 else d.nx ρ1
mutual
def wpS (Γ : Gam) : Sm → DTS
  | .asg t e => fun E d ρ => (wp Γ e).e E ρ fun r ρ1 => asn Γ t r E ρ1 d.nx
  | .par ts es => fun E d ρ => eL (wps Γ es) E ρ fun rs ρ1 => settle rs ρ1 fun rs' ρ2 => asns Γ ts rs' E ρ2 d.nx
  | .aug i o e => fun E d ρ => match gt ρ i with
    | some (.dat (.int a)) => (wp Γ e).e E ρ fun r ρ1 => match r, o with
      | .dat (.int b), .add => d.nx (ρ1.set i (some (.dat (.int (a + b)))))
      | .dat (.int b), .sub => d.nx (ρ1.set i (some (.dat (.int (a - b)))))
      | _, _ => False
    | _ => False
  | .expr e => fun E d ρ => (wp Γ e).e E ρ fun _ ρ1 => d.nx ρ1
  | .app i e => fun E d ρ => isOwn ρ i ∧ (wp Γ e).e E ρ fun r ρ1 => esc r ρ1 fun x ρ2 => match gt ρ2 i with
    | some (.own b xs) => xs.length < sizeLine ∧ d.nx (ρ2.set i (some (.own b (xs ++ [x]))))
    | _ => False
  | .ext i e => fun E d ρ => isOwn ρ i ∧ (wp Γ e).e E ρ fun r ρ1 => match r with
    | .own ys => match gt ρ1 i with
      | some (.own b xs) => LenOk (xs.length + ys.length) ∧ d.nx (ρ1.set i (some (.own b (xs ++ ys))))
      | _ => False
    | _ => False
  | .ins i a b => fun E d ρ => isOwn ρ i ∧ (wp Γ a).e E ρ fun q ρ1 => (wp Γ b).e E ρ1 fun r ρ2 => esc r ρ2 fun x ρ3 => match q with
    | .dat (.int j) => match gt ρ3 i with
      | some (.own io xs) => (0 ≤ j ∧ j ≤ xs.length ∧ xs.length < 1000) ∧ d.nx (ρ3.set i (some (.own io (xs.take j.toNat ++ x :: xs.drop j.toNat))))
      | _ => False
    | _ => False
  | .ret e => fun E d ρ => (wp Γ e).e E ρ fun r ρ1 => d.rt r ρ1
  | .retN => fun _ d ρ => d.rt (.dat .none) ρ
  | .ite c a b => fun E d ρ => (wp Γ c).t E ρ fun q ρ1 => if q = true then wpSs Γ a E d ρ1 else wpSs Γ b E d ρ1
  | .for_ t it b => fun E d ρ => (wp Γ it).f E ρ fun xs _ ρ1 => forL (asnN t) (wpSs Γ b E) d xs ρ1
  | .while_ c b => whileP (wp Γ c).t (wpSs Γ b)
  | .raise_ x e => fun E d ρ => False
  | .brk => fun _ d ρ => d.bk ρ
  | .cont => fun _ d ρ => d.ct ρ
  | .pass => fun _ d ρ => d.nx ρ
def wpSs (Γ : Gam) : List Sm → DTS
  | [] => fun _ d ρ => d.nx ρ
  | s :: ss => fun E d ρ => wpS Γ s E { d with nx := fun ρ1 => wpSs Γ ss E d ρ1 } ρ
end
def tDS (c : Cf) (w : DTS) : TS := fun D σ H => ∃ F ρ E d, Rp c.K c.IO F H σ ρ ∧ w E d ρ ∧ XC c F E σ ρ H ∧
  (∀ σ' H' ρ', Nx σ ρ H σ' ρ' H' → Rp c.K c.IO F H' σ' ρ' → d.nx ρ' → D.nx σ' H') ∧
  (∀ v H' σ' ρ' r, Nx σ ρ H σ' ρ' H' → RsOk c.K c.IO F H' σ' ρ' v r → (∀ a, fr v r a → H a = none) → d.rt r ρ' → D.rt v H') ∧
  (∀ σ' H' ρ', Nx σ ρ H σ' ρ' H' → Rp c.K c.IO F H' σ' ρ' → d.bk ρ' → D.bk σ' H') ∧
  (∀ σ' H' ρ', Nx σ ρ H σ' ρ' H' → Rp c.K c.IO F H' σ' ρ' → d.ct ρ' → D.ct σ' H')
section
variable {X : Cx} {c : Cf} {K : PySem.W.Frag} {IO : Nat → Option Addr} {F G : Addr → Prop} {bad : Addr → Prop} {H H1 H2 H' : Hp} {σ σ1 : St} {ρ ρ1 ρ2 : Rho} {v : V} {r : Rs} {E : Xn → Prop}
  {e a b tg : Expr} {es : List Expr} {pos : Pos} {w wa wb wc : DTE} {wr : DTR} {n : Nat} {st : Stmt} {sts : List Stmt} {ws wss : DTS}
theorem s_nil : PSs X [] (tDS c fun _ d ρ => d.nx ρ) := (pss_nil (X := X)).imp fun D σ H ⟨F, ρ, E, d, rp, hw, xc, k1, _, _, _⟩ => k1 _ _ _ Nx.refl rp hw
theorem s_cons (h1 : PS X st (tDS c ws)) (h2 : PSs X sts (tDS c wss)) : PSs X (st :: sts) (tDS c fun E d ρ => ws E { d with nx := fun ρ1 => wss E d ρ1 } ρ) :=
  (pss_cons h1 h2).imp fun D σ H ⟨F, ρ, E, d, rp, hw, xc, k1, k2, k3, k4⟩ => ⟨F, ρ, E, _, rp, hw, xc,
    fun σ' H' ρ' n1 p1 q => ⟨F, ρ', E, d, p1, q, xc.nx n1, fun σ2 H2 ρ2 n2 p2 q2 => k1 _ _ _ (n1.trans n2) p2 q2, fun v H2 σ2 ρ2 r n2 p2 f2 q2 => k2 _ _ _ _ _ (n1.trans n2) p2 (fun a z => n1.fresh (f2 a z)) q2,
      fun σ2 H2 ρ2 n2 p2 q2 => k3 _ _ _ (n1.trans n2) p2 q2, fun σ2 H2 ρ2 n2 p2 q2 => k4 _ _ _ (n1.trans n2) p2 q2⟩, k2, k3, k4⟩
theorem s_pass : PS X (.Pass pos) (tDS c fun _ d ρ => d.nx ρ) := (ps_pass (X := X)).imp fun D σ H ⟨F, ρ, E, d, rp, hw, xc, k1, _, _, _⟩ => k1 _ _ _ Nx.refl rp hw
theorem s_brk : PS X (.Break pos) (tDS c fun _ d ρ => d.bk ρ) := (ps_break (X := X)).imp fun D σ H ⟨F, ρ, E, d, rp, hw, xc, _, _, k3, _⟩ => k3 _ _ _ Nx.refl rp hw
theorem s_cont : PS X (.Continue pos) (tDS c fun _ d ρ => d.ct ρ) := (ps_continue (X := X)).imp fun D σ H ⟨F, ρ, E, d, rp, hw, xc, _, _, _, k4⟩ => k4 _ _ _ Nx.refl rp hw
theorem s_never : PS X st (tDS c fun _ _ _ => False) := (ps_never (X := X)).imp fun D σ H ⟨_, _, _, _, _, hw, _⟩ => hw.elim
theorem s_expr (h : PE X e (tD c w)) (hs : swapsWith e none pos.line X.env = pure false) : PS X (.Expr e pos) (tDS c fun E d ρ => w E ρ fun _ ρ1 => d.nx ρ1) :=
  (ps_expr h hs).imp fun D σ H ⟨F, ρ, E, d, rp, hw, xc, k1, _, _, _⟩ => ⟨F, ρ, E, _, rp, hw, xc, fun v H1 ρ1 r n1 ok1 f1 q1 => k1 _ _ _ n1 ok1.rp' q1⟩
theorem s_ret (h : PE X e (tD c w)) : PS X (.Return (some e) pos) (tDS c fun E d ρ => w E ρ fun r ρ1 => d.rt r ρ1) :=
  (ps_ret h).imp fun D σ H ⟨F, ρ, E, d, rp, hw, xc, _, k2, _, _⟩ => ⟨F, ρ, E, _, rp, hw, xc, fun v H1 ρ1 r n1 ok1 f1 q1 => k2 _ _ _ _ _ n1 ok1 f1 q1⟩
theorem s_retN : PS X (.Return none pos) (tDS c fun _ d ρ => d.rt (.dat .none) ρ) :=
  (ps_retN (X := X)).imp fun D σ H ⟨F, ρ, E, d, rp, hw, xc, _, k2, _, _⟩ => k2 _ _ _ _ _ Nx.refl (.ofDat rp .non) (fun _ z => z.elim) hw
theorem s_ite {t : Expr} {l m : List Stmt} {wt : DTT} {w1 w2 : DTS} (ht : PT X t (tDT c wt)) (hl : PSs X l (tDS c w1)) (hm : PSs X m (tDS c w2)) : PS X (.If t l m pos) (tDS c fun E d ρ => wt E ρ fun q ρ1 => if q = true then w1 E d ρ1 else w2 E d ρ1) :=
  (ps_if ht hl hm).imp fun D σ H ⟨F, ρ, E, d, rp, hw, xc, k1, k2, k3, k4⟩ => ⟨F, ρ, E, _, rp, hw, xc, fun b H1 ρ1 n1 p1 q1 => by
    cases b with
    | true => exact ⟨F, ρ1, E, d, p1, q1, xc.nx n1, fun σ2 H2 ρ2 n2 p2 q2 => k1 _ _ _ (n1.trans n2) p2 q2, fun v H2 σ2 ρ2 r n2 p2 f2 q2 => k2 _ _ _ _ _ (n1.trans n2) p2 (fun a z => n1.fresh (f2 a z)) q2,
      fun σ2 H2 ρ2 n2 p2 q2 => k3 _ _ _ (n1.trans n2) p2 q2, fun σ2 H2 ρ2 n2 p2 q2 => k4 _ _ _ (n1.trans n2) p2 q2⟩
    | false => exact ⟨F, ρ1, E, d, p1, q1, xc.nx n1, fun σ2 H2 ρ2 n2 p2 q2 => k1 _ _ _ (n1.trans n2) p2 q2, fun v H2 σ2 ρ2 r n2 p2 f2 q2 => k2 _ _ _ _ _ (n1.trans n2) p2 (fun a z => n1.fresh (f2 a z)) q2,
      fun σ2 H2 ρ2 n2 p2 q2 => k3 _ _ _ (n1.trans n2) p2 q2, fun σ2 H2 ρ2 n2 p2 q2 => k4 _ _ _ (n1.trans n2) p2 q2⟩⟩
theorem s_while {t : Expr} {l : List Stmt} {wt : DTT} {w1 : DTS} (hp : PassesOwn (model X.prog X.w) X.A X.env X.xe) (ht : PT X t (tDT c wt)) (hl : PSs X l (tDS c w1)) : PS X (.While t l [] pos) (tDS c (whileP wt w1)) :=
  (ps_while hp ht hl).imp fun D σ H ⟨F, ρ, E, d, rp, ⟨I, ⟨m, im⟩, step⟩, xc, k1, k2, k3, k4⟩ => by
    refine ⟨fun m σ' H' => ∃ ρ', Rp c.K c.IO F H' σ' ρ' ∧ Nx σ ρ H σ' ρ' H' ∧ I m ρ', ⟨m, ρ, rp, Nx.refl, im⟩, fun m σ1 H1 ⟨ρ1, p1, n1, i1⟩ => ?_⟩
    refine ⟨F, ρ1, E, _, p1, step m ρ1 i1, xc.nx n1, fun b H2 ρ2 n2 p2 q2 => ?_⟩
    have n12 := n1.trans n2
    cases b with
    | false => exact k1 _ _ _ n12 p2 q2
    | true =>
      refine ⟨fun σ' H' => ∃ m', m' < m ∧ ∃ ρ', Rp c.K c.IO F H' σ' ρ' ∧ Nx σ ρ H σ' ρ' H' ∧ I m' ρ', fun σ' H' h => h, F, ρ2, E, _, p2, q2, xc.nx n12, fun σ3 H3 ρ3 n3 p3 ⟨m', hm, i3⟩ => ⟨m', hm, ρ3, p3, n12.trans n3, i3⟩, fun v H3 σ3 ρ3 r n3 p3 f3 q3 => k2 _ _ _ _ _ (n12.trans n3) p3 (fun a z => n12.fresh (f3 a z)) q3,
        fun σ3 H3 ρ3 n3 p3 q3 => k1 _ _ _ (n12.trans n3) p3 q3, fun σ3 H3 ρ3 n3 p3 ⟨m', hm, i3⟩ => ⟨m', hm, ρ3, p3, n12.trans n3, i3⟩⟩
theorem s_for {iter : Expr} {l : List Stmt} {wi : DTI} {t : Tn} {w1 : DTS} (hp : PassesOwn (model X.prog X.w) X.A X.env X.xe) (hc : X.calm = true) (hi : PI X tg iter (tDF c wi)) (hg : PG X tg (gOf c.K t)) (hl : PSs X l (tDS c w1))
    (hs : ∀ x, foldedSetIterable iter X.env x = pure x) : PS X (.For tg iter l [] pos) (tDS c fun E d ρ => wi E ρ fun xs _ ρ1 => forL (asnN t) (w1 E) d xs ρ1) :=
  (ps_for hp hc hi hg hl hs).imp fun D σ H ⟨F, ρ, E, d, rp, hw, xc, k1, k2, k3, k4⟩ => by
    refine ⟨F, ρ, E, _, rp, hw, xc, fun J H1 ρ1 xs ck S n1 p1 fd stay s1 hz hw2 => ?_⟩
    have wf : Walk J xs.length (fun H => ∃ bad, S bad H) (fun i H x H' => J.yld i H x H') := ⟨fun i H hi ⟨bad, t⟩ => fd.go bad H i t hi, fun H ⟨bad, t⟩ => fd.stop bad H t, fun _ _ _ _ _ _ y => y⟩
    refine for_it wf (fun i σ' H' => ∃ ρ', Rp c.K c.IO F H' σ' ρ' ∧ Nx σ ρ H σ' ρ' H' ∧ S (Bad F σ' ρ') H' ∧ forL (asnN t) (w1 E) d (xs.drop i) ρ') ⟨ρ1, p1, n1, s1, by simpa using hw2⟩ (fun i σ' H' _ ⟨ρ', p, n, s, _⟩ => ⟨_, s⟩) (fun i x σ' H' H2 hi ⟨ρ', p, n, s, q⟩ y => ?_) fun σ' H' ⟨ρ', p, n, s, q⟩ => ?_
    · obtain ⟨dx, hdx⟩ := get_ex hi
      rw [List.drop_eq_getElem_cons hi] at q
      have e0 : xs[i] = dx := by rw [List.getElem?_eq_getElem hi] at hdx; exact Option.some.inj hdx
      rw [e0] at q
      obtain ⟨k5, dv⟩ := fd.yld _ H' i x H2 dx s (fun a z => p.bad_dom z) hdx y
      obtain ⟨p2, n2⟩ := p.ext k5
      have s2 : S (Bad F σ' ρ') H2 := stay _ _ _ _ s fun a o e nb => ⟨k5 a o e, nb⟩
      refine asn_ok p2 dv q fun σ3 ρ3 dif len3 p3 n3 q3 => ?_
      have n13 := (n.trans n2).trans n3
      have s3 : S (Bad F σ3 ρ3) H2 := stay _ _ _ _ s2 n3.bad
      have again : ∀ σ4 H4 ρ4, Nx σ3 ρ3 H2 σ4 ρ4 H4 → Rp c.K c.IO F H4 σ4 ρ4 → forL (asnN t) (w1 E) d (xs.drop (i + 1)) ρ4 → ∃ ρ', Rp c.K c.IO F H4 σ4 ρ' ∧ Nx σ ρ H σ4 ρ' H4 ∧ S (Bad F σ4 ρ') H4 ∧ forL (asnN t) (w1 E) d (xs.drop (i + 1)) ρ' :=
        fun σ4 H4 ρ4 n4 p4 q4 => ⟨ρ4, p4, n13.trans n4, stay _ _ _ _ s3 n4.bad, q4⟩
      exact ⟨F, ρ3, E, _, p3, q3, xc.nx n13, again, fun v H4 σ4 ρ4 r n4 p4 f4 q4 => k2 _ _ _ _ _ (n13.trans n4) p4 (fun a z => n13.fresh (f4 a z)) q4,
        fun σ4 H4 ρ4 n4 p4 q4 => k1 _ _ _ (n13.trans n4) p4 q4, again⟩
    · rw [List.drop_eq_nil_of_le (Nat.le_refl _)] at q
      exact k1 _ _ _ n p q
end
end DL
/-! DL16: assignments, lists that grow. -/
namespace DL
open PySem PySem.Spec PyProof.Rows L2
section
variable {X : Cx} {c : Cf} {K : PySem.W.Frag} {IO : Nat → Option Addr} {F G : Addr → Prop} {bad : Addr → Prop} {H0 H H1 H2 H' : Hp} {σ0 σ σ1 : St} {ρ0 ρ ρ1 ρ2 : Rho} {v : V} {r : Rs} {E : Xn → Prop} {Γ : Gam}
  {e a b tg : Expr} {es : List Expr} {pos : Pos} {w wa wb wc : DTE} {wr : DTR} {n : Nat} {st : Stmt} {sts : List Stmt} {ws wss : DTS}
/-- a name is given a list in hand -/
theorem Rp.putOwn {i : Nat} {x : Addr} {xs : List D} {vs : List V} (p : Rp K IO (FF F (.ref x) (.own xs)) H σ ρ) (hf : ¬ F x) (hx : H x = some (.lst vs)) (dv : DVs K H (Bad (FF F (.ref x) (.own xs)) σ ρ) vs xs) :
    Rp K IO F H (σ.set i (some (.ref x))) (ρ.set i (some (.own false xs))) ∧ ∀ a, Own (σ.set i (some (.ref x))) (ρ.set i (some (.own false xs))) a → Own σ ρ a ∨ a = x := by
  have nO : ¬ Own σ ρ x := fun q => p.own_ne q (.inr rfl)
  have ho : ∀ a, Own (σ.set i (some (.ref x))) (ρ.set i (some (.own false xs))) a → Own σ ρ a ∨ a = x := fun a ⟨j, io, zs, h1, h2⟩ => by
    by_cases hj : j = i
    · subst hj
      have hl := gt_lt h1
      rw [List.length_set] at hl
      rw [List.getElem?_set_self (by rw [← p.len]; exact hl)] at h2
      cases h2
      exact .inr rfl
    · rw [gt_set_ne hj] at h1
      rw [get_set_ne hj] at h2
      exact .inl ⟨j, io, zs, h1, h2⟩
  have km : ∀ a o, H a = some o → ¬ Bad (FF F (.ref x) (.own xs)) σ ρ a → H a = some o ∧ ¬ Bad F (σ.set i (some (.ref x))) (ρ.set i (some (.own false xs))) a := fun a o e nb => ⟨e, fun q => by
    rcases q with q | q
    · exact nb (.inl (.inl q))
    · rcases ho a q with z | z
      · exact nb (.inr z)
      · subst z; exact nb (.inl (.inr rfl))⟩
  refine ⟨⟨fun j d e => ?_, fun j io zs e => ?_, fun j l io jo zs zs' y h1 h2 h3 h4 => ?_, fun a q => p.fdom a (.inl q), by simpa using p.len⟩, ho⟩
  · by_cases hj : j = i
    · subst hj
      have hl := gt_lt e
      rw [List.length_set] at hl
      rw [gt_set_self hl] at e; cases e
    · rw [gt_set_ne hj] at e
      obtain ⟨u, h1, h2⟩ := p.dat j d e
      exact ⟨u, by rw [get_set_ne hj]; exact h1, h2.mono km⟩
  · by_cases hj : j = i
    · subst hj
      have hl := gt_lt e
      rw [List.length_set] at hl
      rw [gt_set_self hl] at e; cases e
      exact ⟨x, vs, by rw [List.getElem?_set_self (by rw [← p.len]; exact hl)], hx, dv.mono km, hf, fun z => by cases z⟩
    · rw [gt_set_ne hj] at e
      obtain ⟨y, us, h1, h2, h3, h4, h5⟩ := p.own j io zs e
      exact ⟨y, us, by rw [get_set_ne hj]; exact h1, h2, h3.mono km, fun z => h4 (.inl z), h5⟩
  · by_cases hj : j = i
    · by_cases hl : l = i
      · rw [hj, hl]
      · subst hj
        have hlt := gt_lt h1
        rw [List.length_set] at hlt
        rw [List.getElem?_set_self (by rw [← p.len]; exact hlt)] at h3
        cases h3
        rw [gt_set_ne hl] at h2
        rw [get_set_ne hl] at h4
        exact (nO ⟨l, _, _, h2, h4⟩).elim
    · by_cases hl : l = i
      · subst hl
        have hlt := gt_lt h2
        rw [List.length_set] at hlt
        rw [List.getElem?_set_self (by rw [← p.len]; exact hlt)] at h4
        cases h4
        rw [gt_set_ne hj] at h1
        rw [get_set_ne hj] at h3
        exact (nO ⟨j, _, _, h1, h3⟩).elim
      · rw [gt_set_ne hj] at h1
        rw [gt_set_ne hl] at h2
        rw [get_set_ne hj] at h3
        rw [get_set_ne hl] at h4
        exact p.inj j l _ _ _ _ y h1 h2 h3 h4
/-- the list of a name is written -/
theorem Rp.setOwn {i : Nat} {x : Addr} {bo : Bool} {xs ys : List D} {us : List V} (p : Rp K IO F H σ ρ) (e : gt ρ i = some (.own bo xs)) (hv : σ[i]? = some (some (.ref x))) (dv : DVs K H (Bad F σ ρ) us ys) :
    Rp K IO F (upd H x (.lst us)) σ (ρ.set i (some (.own bo ys))) ∧ Nx σ ρ H σ (ρ.set i (some (.own bo ys))) (upd H x (.lst us)) := by
  obtain ⟨y, ws, e1, e2, _⟩ := p.own i _ _ e
  rw [hv] at e1; cases e1
  have hO : Own σ ρ x := ⟨i, bo, xs, e, hv⟩
  have A : AfterIo K (fun b => Bad F σ ρ b ∨ b = x) x H .non (upd H x (.lst us)) (.dat .none) ys := ⟨fun b o q nb => by rw [upd_ne nb]; exact q, ⟨us, upd_same, dv.mono fun b o q nb => by
    have hb : b ≠ x := fun z => nb (by subst z; exact .inr hO)
    refine ⟨by rw [upd_ne hb]; exact q, fun z => ?_⟩
    rcases z with (z | z) | z
    · exact nb z
    · exact hb z
    · exact z⟩, .non⟩
  obtain ⟨n1, ok, _⟩ := A.ref p e hv
  exact ⟨ok.rp', n1⟩
mutual
def gTa (c : Cf) (Γ : Gam) : Ta → TG
  | .name i => gName i
  | .sub i ix => gSub (tVar i) (tD c (wp Γ ix).e) rSetL
  | .tup ts => gTup c.K ts.length (gTas c Γ ts)
def gTas (c : Cf) (Γ : Gam) : List Ta → TGs
  | [] => gNil
  | t :: ts => gCons (gTa c Γ t) (gTas c Γ ts)
end
theorem DVs.hs : ∀ {vs : List V} {ds : List D}, DVs K H bad vs ds → Hs K H bad σ vs (ds.map .dat) []
  | _, [], h => by cases h; exact .nil
  | _, d :: ds, h => by cases h with | cons a r => exact .val a (by simp) (DVs.hs r)
theorem own_at {i : Nat} (p : Rp K IO F H σ ρ) (h : isOwn ρ i) : ∃ b xs x us, gt ρ i = some (.own b xs) ∧ σ[i]? = some (some (.ref x)) ∧ H x = some (.lst us) ∧ DVs K H (Bad F σ ρ) us xs := by
  unfold isOwn at h
  split at h
  · rename_i b xs e
    obtain ⟨x, us, h1, h2, h3, _⟩ := p.own i _ _ e
    exact ⟨b, xs, x, us, e, h1, h2, h3⟩
  · exact h.elim
/-- from a state with results in hand (P) to one in which they are names' -/
structure Nr (P : Addr → Prop) (σ : St) (ρ : Rho) (H : Hp) (σ' : St) (ρ' : Rho) (H' : Hp) : Prop where
  keep : ∀ a o, H a = some o → ¬ Own σ ρ a → ¬ P a → H' a = some o
  sub : ∀ a, Own σ' ρ' a → Own σ ρ a ∨ H a = none ∨ P a
  there : ∀ a o, H a = some o → ∃ o', H' a = some o'
theorem Nx.nr {P : Addr → Prop} (n : Nx σ ρ H σ1 ρ1 H1) : Nr P σ ρ H σ1 ρ1 H1 := ⟨fun a o e no _ => n.keep a o e no, fun a q => (n.sub a q).imp id .inl, n.there⟩
mutual
theorem asn_one {Q : St → Hp → Prop} : ∀ (t : Ta) {F : Addr → Prop} {v : V} {r : Rs} {σ : St} {ρ : Rho} {H : Hp} {k : Rho → Prop}, Nx σ0 ρ0 H0 σ ρ H → (∀ a, fr v r a → H0 a = none) → RsOk c.K c.IO F H σ ρ v r → XC c F E σ0 ρ0 H0 → asn Γ t r E ρ k →
    (∀ σ' H' ρ', Nx σ0 ρ0 H0 σ' ρ' H' → Nr (fr v r) σ ρ H σ' ρ' H' → Rp c.K c.IO F H' σ' ρ' → k ρ' → Q σ' H') → gTa c Γ t v σ H Q
  | .name i, F, v, r, σ, ρ, H, k, n1, f1, ok, xc, h, q => by
    simp only [asn] at h
    unfold putR at h
    have h' : putR' i r ρ k := by split at h <;> first | exact h.elim | exact h
    clear h
    simp only [gTa]
    cases r with
    | dat d =>
      obtain ⟨p2, n2⟩ := ok.rp'.put (i := i) (show DV c.K H (Bad F σ ρ) v d from ok.r1')
      exact q _ _ _ (n1.trans n2) n2.nr p2 h'
    | ref j =>
      simp only [putR'] at h'
      obtain ⟨d, ρ', h2, p2, d2, n2⟩ := esc_ok ok h'
      obtain ⟨p3, n3⟩ := p2.put (i := i) d2
      exact q _ _ _ ((n1.trans n2).trans n3) (n2.trans n3).nr p3 h2
    | own xs =>
      obtain ⟨x, vs, rfl, e2, e3⟩ := ok.r1
      obtain ⟨p2, ho⟩ := ok.rp.putOwn (i := i) (ok.nf x rfl) e2 e3
      refine q _ _ _ ⟨n1.keep, fun a z => ?_, n1.there⟩ ⟨fun _ _ e _ _ => e, fun a z => ?_, fun a o e => ⟨o, e⟩⟩ p2 h'
      · rcases ho a z with y | y
        · exact n1.sub a y
        · subst y; exact .inr (f1 a rfl)
      · rcases ho a z with y | y
        · exact .inl y
        · subst y; exact .inr (.inr rfl)
  | .sub i ix, F, v, r, σ, ρ, H, k, n1, f1, ok, xc, h, q => by
    simp only [asn] at h
    obtain ⟨d, ρ1, h2, p2, d2, n2⟩ := esc_ok ok h
    obtain ⟨io, h3⟩ := h2
    obtain ⟨b0, xs0, x, us0, e0, e1, e2, e3⟩ := own_at p2 io
    simp only [gTa]
    refine ⟨.ref x, e1, F, ρ1, E, _, p2, h3, xc.nx (n1.trans n2), fun iv H3 ρ3 r3 n3 ok3 f3 q3 => ?_⟩
    split at q3
    · rename_i j
      obtain rfl := (DR.dv ok3.r1').int
      split at q3
      · rename_i b xs e
        split at q3
        · rename_i m em
          obtain ⟨y, us, g1, g2, g3, _⟩ := ok3.rp'.own i _ _ e
          rw [e1] at g1; cases g1
          obtain ⟨p4, n4⟩ := ok3.rp'.setOwn (ys := xs.set m d) e e1 (DVs.set (n3.dv d2) m g3)
          exact ⟨x, us, j, m, rfl, rfl, g2, by rw [g3.length]; exact em, q _ _ _ (((n1.trans n2).trans n3).trans n4) ((n2.trans n3).trans n4).nr p4 q3⟩
        · exact q3.elim
      · exact q3.elim
    · exact q3.elim
  | .tup ts, F, v, r, σ, ρ, H, k, n1, f1, ok, xc, h, q => by
    simp only [asn] at h
    split at h
    · rename_i ds
      have dv : DV c.K H (Bad F σ ρ) v (.tuple ds) := ok.r1'
      cases dv with
      | tup h1 h2 =>
        simp only [gTa]
        refine ⟨_, _, rfl, h1.sq, by rw [h2.length]; exact h.1, ?_⟩
        exact asns_ok ts (as := []) n1 (by rw [FL_nil]; exact ok.rp') (by rw [FL_nil]; exact h2.hs) (fun r hr i e => by subst e; simp at hr) (fun _ z => absurd z (by simp)) xc h.2 fun σ' H' ρ' n2 n3 p k2 => q _ _ _ n2 ⟨fun a o e no _ => n3.keep a o e no (by simp), fun a z => (n3.sub a z).imp id fun y => y.imp id fun w => absurd w (by simp), n3.there⟩ p k2
    · exact h.elim
theorem asns_ok {Q : St → Hp → Prop} : ∀ (ts : List Ta) {F : Addr → Prop} {vs : List V} {rs : List Rs} {as : List Addr} {σ : St} {ρ : Rho} {H : Hp} {k : Rho → Prop}, Nx σ0 ρ0 H0 σ ρ H → Rp c.K c.IO (FL F as) H σ ρ → Hs c.K H (Bad (FL F as) σ ρ) σ vs rs as → (∀ r ∈ rs, ∀ i, r ≠ .ref i) →
    (∀ a ∈ as, ¬ F a ∧ H0 a = none) → XC c F E σ0 ρ0 H0 → asns Γ ts rs E ρ k →
    (∀ σ' H' ρ', Nx σ0 ρ0 H0 σ' ρ' H' → Nr (· ∈ as) σ ρ H σ' ρ' H' → Rp c.K c.IO F H' σ' ρ' → k ρ' → Q σ' H') → gTas c Γ ts vs σ H Q
  | [], F, vs, rs, as, σ, ρ, H, k, n1, p, hs, nr, f1, xc, h, q => by
    simp only [asns] at h
    cases hs with
    | nil =>
      rw [FL_nil] at p
      simp only [gTas]
      exact ⟨rfl, q _ _ _ n1 Nx.refl.nr p h⟩
    | val _ _ _ => exact h.elim
    | own _ _ _ _ => exact h.elim
  | t :: ts, F, vs, rs, as, σ, ρ, H, k, n1, p, hs, nr, f1, xc, h, q => by
    simp only [asns] at h
    simp only [gTas]
    have tail : ∀ {as' : List Addr} {vs' : List V} {rs' : List Rs} {v0 : V} {r0 : Rs} {σ2 : St} {H2 : Hp} {ρ2 : Rho}, FF (FL F as') v0 r0 = FL F as → (∀ a, fr v0 r0 a → a ∈ as) → (∀ a ∈ as', a ∈ as) → (∀ a ∈ as', ¬ fr v0 r0 a) → (∀ r ∈ rs', ∀ i, r ≠ .ref i) →
        Hs c.K H (Bad (FL F as) σ ρ) σ vs' rs' as' → Nx σ0 ρ0 H0 σ2 ρ2 H2 → Nr (fr v0 r0) σ ρ H σ2 ρ2 H2 → Rp c.K c.IO (FL F as') H2 σ2 ρ2 → asns Γ ts rs' E ρ2 k → gTas c Γ ts vs' σ2 H2 Q := fun {as' vs' rs' v0 r0 σ2 H2 ρ2} hF h1 h2 h3 nr' ht n2 n3 p2 k2 => by
      have km : ∀ a o, H a = some o → ¬ Bad (FL F as) σ ρ a → H2 a = some o ∧ ¬ Bad (FL F as') σ2 ρ2 a := fun a o e nb => by
        refine ⟨n3.keep a o e (fun z => nb (.inr z)) fun z => nb (.inl (.inr (h1 a z))), fun z => ?_⟩
        rcases z with z | z
        · exact nb (.inl (by rw [← hF]; exact .inl z))
        · rcases n3.sub a z with y | y | y
          · exact nb (.inr y)
          · rw [e] at y; cases y
          · exact nb (.inl (.inr (h1 a y)))
      have ht2 : Hs c.K H2 (Bad (FL F as') σ2 ρ2) σ2 vs' rs' as' := by
        have gen : ∀ {vs' rs' bs}, Hs c.K H (Bad (FL F as) σ ρ) σ vs' rs' bs → (∀ a ∈ bs, a ∈ as') → (∀ r ∈ rs', ∀ i, r ≠ .ref i) → Hs c.K H2 (Bad (FL F as') σ2 ρ2) σ2 vs' rs' bs := fun hh => by
          induction hh with
          | nil => intro _ _; exact .nil
          | @val v1 r1 vs1 rs1 as1 a1 a2 _ ih =>
            intro b1 b2
            refine .val ?_ a2 (ih b1 fun r hr => b2 r (List.mem_cons_of_mem _ hr))
            cases r1 with
            | dat d => exact DV.mono km _ _ a1
            | own xs => exact (a2 xs rfl).elim
            | ref i => exact (b2 _ List.mem_cons_self i rfl).elim
          | @own x1 ws1 xs1 vs1 rs1 as1 a1 a2 a3 _ ih =>
            intro b1 b2
            refine .own (n3.keep _ _ a1 (fun z => p.own_ne z (.inr (h2 _ (b1 _ List.mem_cons_self)))) (h3 _ (b1 _ List.mem_cons_self))) (a2.mono km) a3 (ih (fun a ha => b1 a (List.mem_cons_of_mem _ ha)) fun r hr => b2 r (List.mem_cons_of_mem _ hr))
        exact gen ht (fun _ z => z) nr'
      refine asns_ok ts n2 p2 ht2 nr' (fun a ha => f1 a (h2 a ha)) xc k2 fun σ3 H3 ρ3 n4 n5 p3 k3 => q _ _ _ n4 ⟨fun a o e no np => n5.keep a o (n3.keep a o e no fun z => np (h1 a z)) (fun z => ?_) fun z => np (h2 a z), fun a z => ?_, fun a o e => ?_⟩ p3 k3
      · rcases n3.sub a z with y | y | y
        · exact no y
        · rw [e] at y; cases y
        · exact np (h1 a y)
      · rcases n5.sub a z with y | y | y
        · exact (n3.sub a y).imp id fun w => w.imp id (h1 a)
        · refine .inr (.inl ?_)
          cases e : H a with
          | none => rfl
          | some o => obtain ⟨o', e'⟩ := n3.there a o e; rw [y] at e'; cases e'
        · exact .inr (.inr (h2 a y))
      · obtain ⟨o', e'⟩ := n3.there a o e
        exact n5.there a o' e'
    cases hs with
    | nil => exact h.elim
    | @val v0 r0 vs' rs' _ r1 hn ht' =>
      refine ⟨v0, vs', rfl, ?_⟩
      have ok : RsOk c.K c.IO (FL F as) H σ ρ v0 r0 := r1.rsok p hn
      have nof : ∀ a, ¬ fr v0 r0 a := fun a z => by
        cases r0 with
        | own xs => exact (hn xs rfl).elim
        | dat d => exact z.elim
        | ref i => exact z.elim
      have hF : FF (FL F as) v0 r0 = FL F as := by
        cases r0 with
        | own xs => exact (hn xs rfl).elim
        | dat d => exact FF_dat
        | ref i => exact FF_ref
      exact asn_one t n1 (fun a z => (nof a z).elim) ok (xc.more sub_FL) h fun σ2 H2 ρ2 n2 n3 p2 h2 =>
        tail hF (fun a z => (nof a z).elim) (fun a z => z) (fun a _ => nof a) (fun r hr => nr r (List.mem_cons_of_mem _ hr)) ht' n2 n3 p2 h2
    | @own x us xs vs' rs' as' e2 e3 hx ht' =>
      refine ⟨.ref x, vs', rfl, ?_⟩
      have hF : FF (FL F as') (.ref x) (.own xs) = FL F (x :: as') := by
        funext b
        apply propext
        constructor
        · rintro ((z | z) | z)
          · exact .inl z
          · exact .inr (List.mem_cons_of_mem _ z)
          · cases z; exact .inr List.mem_cons_self
        · rintro (z | z)
          · exact .inl (.inl z)
          · rcases List.mem_cons.mp z with rfl | z
            · exact .inr rfl
            · exact .inl (.inr z)
      have ok : RsOk c.K c.IO (FL F as') H σ ρ (.ref x) (.own xs) := ⟨by rw [hF]; exact p, ⟨x, us, rfl, e2, by rw [hF]; exact e3⟩, fun a z y => by
        cases z
        rcases y with y | y
        · exact (f1 _ List.mem_cons_self).1 y
        · exact hx y⟩
      exact asn_one t n1 (fun a z => by cases z; exact (f1 _ List.mem_cons_self).2) ok (xc.more sub_FL) h fun σ2 H2 ρ2 n2 n3 p2 h2 =>
        tail hF (fun a z => by cases z; exact List.mem_cons_self) (fun a z => List.mem_cons_of_mem _ z) (fun a ha z => by cases z; exact hx ha) (fun r hr => nr r (List.mem_cons_of_mem _ hr)) ht' n2 n3 p2 h2
end
end
end DL
/-! DL17: assignments and methods as statements and expressions. -/
namespace DL
open PySem PySem.Spec PyProof.Rows L2
section
variable {X : Cx} {c : Cf} {K : PySem.W.Frag} {IO : Nat → Option Addr} {F G : Addr → Prop} {bad : Addr → Prop} {H0 H H1 H2 H' : Hp} {σ0 σ σ1 : St} {ρ0 ρ ρ1 ρ2 : Rho} {v : V} {r : Rs} {E : Xn → Prop} {Γ : Gam}
  {e a b tg : Expr} {es : List Expr} {pos : Pos} {w wa wb wc : DTE} {wr : DTR} {n : Nat} {st : Stmt} {sts : List Stmt} {ws wss : DTS} {i : Nat}
theorem s_asg {t : Ta} (he : PE X e (tD c w)) (hg : PG X tg (gTa c Γ t)) (hs : swapsWithSole [tg] e pos.line X.env = pure false) (hw : swappedStores [tg] e X.env = pure none) (h1 : (assignEach [tg] X.env).map (·.2) = [assign tg X.env]) :
    PS X (.Assign [tg] e pos) (tDS c fun E d ρ => w E ρ fun r ρ1 => asn Γ t r E ρ1 d.nx) :=
  (ps_asg he hg hs hw h1).imp fun D σ H ⟨F, ρ, E, d, rp, hw, xc, k1, _, _, _⟩ => ⟨F, ρ, E, _, rp, hw, xc, fun v H1 ρ1 r n1 ok1 f1 q1 =>
    asn_one t n1 f1 ok1 xc q1 fun σ' H' ρ' n2 _ p2 q2 => k1 _ _ _ n2 p2 q2⟩
theorem s_name {st' : Stmt} (h : PS X st' (tAsg (tD c w) (gName i))) : PS X st' (tDS c fun E d ρ => w E ρ fun r ρ1 => asn Γ (.name i) r E ρ1 d.nx) :=
  h.imp fun D σ H ⟨F, ρ, E, d, rp, hw, xc, k1, _, _, _⟩ => ⟨F, ρ, E, _, rp, hw, xc, fun v H1 ρ1 r n1 ok1 f1 q1 => by
    have := asn_one (c := c) (Γ := Γ) (.name i) n1 f1 ok1 xc q1 (Q := D.nx) fun σ' H' ρ' n2 _ p2 q2 => k1 _ _ _ n2 p2 q2
    simp only [gTa] at this
    exact this⟩
theorem _root_.DL.Hs.nx {vs : List V} {rs : List Rs} {as : List Addr} (h : Hs K H (Bad F σ ρ) σ vs rs as) (n : Nx σ ρ H σ ρ1 H1) (ho : ∀ a ∈ as, ¬ Own σ ρ a) : Hs K H1 (Bad F σ ρ1) σ vs rs as := by
  have gen : ∀ {vs rs bs}, Hs K H (Bad F σ ρ) σ vs rs bs → (∀ a ∈ bs, a ∈ as) → Hs K H1 (Bad F σ ρ1) σ vs rs bs := fun h => by
    induction h with
    | nil => intro _; exact .nil
    | val a1 a2 _ ih => intro b; exact .val (a1.nx a2 n) a2 (ih b)
    | own a1 a2 a3 _ ih => intro b; exact .own (n.keep _ _ a1 (ho _ (b _ List.mem_cons_self))) (n.dvs a2) a3 (ih fun a q => b a (List.mem_cons_of_mem _ q))
  exact gen h fun _ q => q
theorem settle_ok : ∀ (rs : List Rs) {vs : List V} {as : List Addr} {ρ : Rho} {k : List Rs → Rho → Prop}, Rp K IO F H σ ρ → (∀ a ∈ as, F a) → Hs K H (Bad F σ ρ) σ vs rs as → settle rs ρ k →
    ∃ rs' ρ', k rs' ρ' ∧ Rp K IO F H σ ρ' ∧ Hs K H (Bad F σ ρ') σ vs rs' as ∧ Nx σ ρ H σ ρ' H ∧ ∀ r ∈ rs', ∀ i, r ≠ .ref i
  | [], vs, as, ρ, k, p, hF, h, q => by
    simp only [settle] at q
    exact ⟨[], ρ, q, p, h, Nx.refl, fun _ z => absurd z (by simp)⟩
  | .dat d :: rs, vs, as, ρ, k, p, hF, h, q => by
    simp only [settle] at q
    cases h with
    | val a1 a2 a3 =>
      obtain ⟨rs', ρ', q2, p2, h2, n2, nr⟩ := settle_ok rs p hF a3 q
      exact ⟨_, ρ', q2, p2, .val (a1.nx a2 n2) (by simp) h2, n2, fun r hr i => by rcases List.mem_cons.mp hr with rfl | hr; simp; exact nr r hr i⟩
  | .own xs :: rs, vs, as, ρ, k, p, hF, h, q => by
    simp only [settle] at q
    cases h with
    | val a1 a2 a3 => exact (a2 xs rfl).elim
    | own a1 a2 a3 a4 =>
      obtain ⟨rs', ρ', q2, p2, h2, n2, nr⟩ := settle_ok rs p (fun a z => hF a (List.mem_cons_of_mem _ z)) a4 q
      exact ⟨_, ρ', q2, p2, .own a1 (n2.dvs a2) a3 h2, n2, fun r hr i => by rcases List.mem_cons.mp hr with rfl | hr; simp; exact nr r hr i⟩
  | .ref j :: rs, vs, as, ρ, k, p, hF, h, q => by
    simp only [settle] at q
    cases h with
    | val a1 a2 a3 =>
      obtain ⟨d, ρ1, q1, p1, d1, n1⟩ := esc_ok (a1.rsok p a2) q
      obtain ⟨rs', ρ', q2, p2, h2, n2, nr⟩ := settle_ok rs p1 hF (a3.nx n1 fun a z y => p.own_ne y (hF a z)) q1
      exact ⟨_, ρ', q2, p2, .val (show R1 K H _ σ _ (.dat d) from n2.dv d1) (by simp) h2, n1.trans n2, fun r hr i => by rcases List.mem_cons.mp hr with rfl | hr; simp; exact nr r hr i⟩
/-- several at once: what is to be shown of the values -/
theorem par_core {ts : List Ta} {D : Ends} (h : tDS c (fun E d ρ => wr E ρ fun rs ρ1 => settle rs ρ1 fun rs' ρ2 => asns Γ ts rs' E ρ2 d.nx) D σ H) :
    tDH c n wr σ H (fun vs H1 => gTas c Γ ts vs σ H1 D.nx) := by
  obtain ⟨F, ρ, E, d, rp, hw, xc, k1, _, _, _⟩ := h
  refine ⟨F, ρ, E, _, rp, hw, xc, fun vs H1 ρ1 rs as hl n1 p1 h1 f1 q1 => ?_⟩
  obtain ⟨rs', ρ2, q2, p2, h2, n2, nr⟩ := settle_ok rs p1 (fun a z => .inr z) h1 q1
  exact asns_ok ts (n1.trans n2) p2 h2 nr f1 xc q2 fun σ' H' ρ' n3 _ p3 q3 => k1 _ _ _ n3 p3 q3
theorem par_tup {ts : List Ta} {D : Ends} (h : tDS c (fun E d ρ => wr E ρ fun rs ρ1 => settle rs ρ1 fun rs' ρ2 => asns Γ ts rs' E ρ2 d.nx) D σ H) (hn : n ≤ 1000) :
    tDH c n wr σ H (fun vs H1 => vs.length ≤ sizeLine ∧ ∀ p, H1 p = none → gTup c.K n (gTas c Γ ts) (.ref p) σ (upd H1 p (.tup vs)) D.nx) := by
  obtain ⟨F, ρ, E, d, rp, hw, xc, k1, _, _, _⟩ := h
  refine ⟨F, ρ, E, _, rp, hw, xc, fun vs H1 ρ1 rs as hl n1 p1 h1 f1 q1 => ⟨small_line (by omega), fun p hp => ⟨p, vs, rfl, .inl (.inl upd_same), hl, ?_⟩⟩⟩
  obtain ⟨p1', ne⟩ := p1.ext (up_new (o := .tup vs) hp)
  have h1' := h1.nx ne fun a z y => p1.own_ne y (.inr z)
  obtain ⟨rs', ρ2, q2, p2, h2, n2, nr⟩ := settle_ok rs p1' (fun a z => .inr z) h1' q1
  exact asns_ok ts ((n1.trans ne).trans n2) p2 h2 nr f1 xc q2 fun σ' H' ρ' n3 _ p3 q3 => k1 _ _ _ n3 p3 q3
theorem s_par2 {j : Nat} {x y : Str} {px py pt : Pos} {kt k2 pt2} (hc : X.calm = true) (hN : X.N.Nodup) (hi : X.N[i]? = some x) (hj : X.N[j]? = some y) (hij : i ≠ j)
    (hx : X.env.scope.names.lookup x = some .local) (hy : X.env.scope.names.lookup y = some .local) (ha : PA X [a, b] (tDH c 2 wr))
    (hw : swappedStores [.Tuple [.Name x px, .Name y py] kt pt] (.Tuple [a, b] k2 pt2) X.env = pure (some [x, y])) :
    PS X (.Assign [.Tuple [.Name x px, .Name y py] kt pt] (.Tuple [a, b] k2 pt2) pos) (tDS c fun E d ρ => wr E ρ fun rs ρ1 => settle rs ρ1 fun rs' ρ2 => asns Γ [.name i, .name j] rs' E ρ2 d.nx) :=
  (ps_par hc hN hi hj hij hx hy ha hw rfl).imp fun D σ H h => by
    obtain ⟨F, ρ, E, Qd, h1, h2, h3, h4⟩ := par_core (n := 2) h
    refine ⟨F, ρ, E, Qd, h1, h2, h3, fun vs H1 ρ1 rs as hl n1 p1 hs f1 q1 => ?_⟩
    have := h4 vs H1 ρ1 rs as hl n1 p1 hs f1 q1
    simp only [gTas, gTa] at this
    obtain ⟨v1, r1, rfl, v2, r2, rfl, rfl, q⟩ := this
    exact ⟨v1, v2, rfl, q⟩
theorem s_par3 {j l : Nat} {x y z : Str} {q : Expr} {px py pz pt : Pos} {kt k2 pt2} (hc : X.calm = true) (hN : X.N.Nodup) (hi : X.N[i]? = some x) (hj : X.N[j]? = some y) (hl : X.N[l]? = some z) (hij : i ≠ j) (hil : i ≠ l) (hjl : j ≠ l)
    (hx : X.env.scope.names.lookup x = some .local) (hy : X.env.scope.names.lookup y = some .local) (hz : X.env.scope.names.lookup z = some .local) (ha : PA X [a, b, q] (tDH c 3 wr))
    (hw : swappedStores [.Tuple [.Name x px, .Name y py, .Name z pz] kt pt] (.Tuple [a, b, q] k2 pt2) X.env = pure (some [x, y, z])) :
    PS X (.Assign [.Tuple [.Name x px, .Name y py, .Name z pz] kt pt] (.Tuple [a, b, q] k2 pt2) pos) (tDS c fun E d ρ => wr E ρ fun rs ρ1 => settle rs ρ1 fun rs' ρ2 => asns Γ [.name i, .name j, .name l] rs' E ρ2 d.nx) :=
  (ps_par3 hc hN hi hj hl hij hil hjl hx hy hz ha hw rfl).imp fun D σ H h => by
    obtain ⟨F, ρ, E, Qd, h1, h2, h3, h4⟩ := par_core (n := 3) h
    refine ⟨F, ρ, E, Qd, h1, h2, h3, fun vs H1 ρ1 rs as hl n1 p1 hs f1 q1 => ?_⟩
    have := h4 vs H1 ρ1 rs as hl n1 p1 hs f1 q1
    simp only [gTas, gTa] at this
    obtain ⟨v1, r1, rfl, v2, r2, rfl, v3, r3, rfl, rfl, q⟩ := this
    exact ⟨v1, v2, v3, rfl, q⟩
theorem s_parT {ts : List Ta} {tgs : List Expr} {kt k2 : Nat} {pt pt2 : Pos} (hc : X.calm = true) (hn : n ≤ 1000) (ha : PA X es (tDH c n wr)) (hg : PGs X tgs (gTas c Γ ts)) (hl : (assignEach tgs X.env).length = n) (hst : (assignEach tgs X.env).findIdx? (·.1) = none)
    (hw : swappedStores [.Tuple tgs kt pt] (.Tuple es k2 pt2) X.env = pure none) (hs : swapsWithSole [.Tuple tgs kt pt] (.Tuple es k2 pt2) pos.line X.env = pure false) (h1 : (assignEach [.Tuple tgs kt pt] X.env).map (·.2) = [assign (.Tuple tgs kt pt) X.env]) (hK : X.K = c.K) :
    PS X (.Assign [.Tuple tgs kt pt] (.Tuple es k2 pt2) pos) (tDS c fun E d ρ => wr E ρ fun rs ρ1 => settle rs ρ1 fun rs' ρ2 => asns Γ ts rs' E ρ2 d.nx) :=
  (ps_asg (pe_tup ha) (pg_tup hc hg hl hst) hs hw h1).imp fun D σ H h => by
    have := par_tup (n := n) h hn
    rw [← hK] at this
    exact this
theorem s_aug_add {x : Str} {pos' : Pos} (hN : X.N.Nodup) (hi : X.N[i]? = some x) (hx : Loc X.env.scope x) (he : PE X e (tD c w)) (hf : X.fn x = true ∨ X.env.scope.names.lookup x = some .local) :
    PS X (.AugAssign (.Name x pos') .Add e pos) (tDS c fun E d ρ => match gt ρ i with
    | some (.dat (.int a)) => w E ρ fun r ρ1 => match r, O2.add with
      | .dat (.int b), .add => d.nx (ρ1.set i (some (.dat (.int (a + b)))))
      | .dat (.int b), .sub => d.nx (ρ1.set i (some (.dat (.int (a - b)))))
      | _, _ => False
    | _ => False) :=
  (ps_aug hN hi hx he ip_add hf).imp fun D σ H ⟨F, ρ, E, d, rp, hw, xc, k1, _, _, _⟩ => by
    dsimp only at hw
    split at hw
    · rename_i a ea
      obtain ⟨v, e1, e2⟩ := rp.dat i _ ea
      cases e2
      refine ⟨_, e1, F, ρ, E, _, rp, hw, xc, fun v H1 ρ1 r n1 ok1 f1 q1 => ?_⟩
      cases r with
      | dat dd =>
        cases dd <;> first | exact q1.elim | skip
        obtain rfl := (DR.dv ok1.r1').int
        obtain ⟨p2, n2⟩ := ok1.rp'.put (i := i) (v := .int (a + _)) (.int _)
        exact ⟨_, _, rfl, rfl, k1 _ _ _ (n1.trans n2) p2 q1⟩
      | own xs => exact q1.elim
      | ref j => exact q1.elim
    · exact hw.elim
theorem s_aug_sub {x : Str} {pos' : Pos} (hN : X.N.Nodup) (hi : X.N[i]? = some x) (hx : Loc X.env.scope x) (he : PE X e (tD c w)) (hf : X.fn x = true ∨ X.env.scope.names.lookup x = some .local) :
    PS X (.AugAssign (.Name x pos') .Sub e pos) (tDS c fun E d ρ => match gt ρ i with
    | some (.dat (.int a)) => w E ρ fun r ρ1 => match r, O2.sub with
      | .dat (.int b), .add => d.nx (ρ1.set i (some (.dat (.int (a + b)))))
      | .dat (.int b), .sub => d.nx (ρ1.set i (some (.dat (.int (a - b)))))
      | _, _ => False
    | _ => False) :=
  (ps_aug hN hi hx he ip_sub hf).imp fun D σ H ⟨F, ρ, E, d, rp, hw, xc, k1, _, _, _⟩ => by
    dsimp only at hw
    split at hw
    · rename_i a ea
      obtain ⟨v, e1, e2⟩ := rp.dat i _ ea
      cases e2
      refine ⟨_, e1, F, ρ, E, _, rp, hw, xc, fun v H1 ρ1 r n1 ok1 f1 q1 => ?_⟩
      cases r with
      | dat dd =>
        cases dd <;> first | exact q1.elim | skip
        obtain rfl := (DR.dv ok1.r1').int
        obtain ⟨p2, n2⟩ := ok1.rp'.put (i := i) (v := .int (a - _)) (.int _)
        exact ⟨_, _, rfl, rfl, k1 _ _ _ (n1.trans n2) p2 q1⟩
      | own xs => exact q1.elim
      | ref j => exact q1.elim
    · exact hw.elim
/-! ### x.append(e), x.extend(e), x.insert(a, b) -/
theorem s_app {st' : Stmt} (h : PS X st' (tDrop (tBM X.K "list" rAppend (tVar i) (tCons (tD c w) tNil)))) : PS X st' (tDS c fun E d ρ => isOwn ρ i ∧ w E ρ fun r ρ1 => esc r ρ1 fun x ρ2 => match gt ρ2 i with
    | some (.own b xs) => xs.length < sizeLine ∧ d.nx (ρ2.set i (some (.own b (xs ++ [x]))))
    | _ => False) :=
  h.imp fun D σ H ⟨F, ρ, E, d, rp, ⟨io, hw⟩, xc, k1, _, _, _⟩ => by
    obtain ⟨b0, xs0, x, us0, e0, e1, e2, e3⟩ := own_at rp io
    refine ⟨.ref x, e1, .inl ⟨rfl, us0, .inl (.inl e2)⟩, F, ρ, E, _, rp, hw, xc, fun v H1 ρ1 r n1 ok1 f1 q1 => ?_⟩
    obtain ⟨dx, ρ2, q2, p2, d2, n2⟩ := esc_ok ok1 q1
    split at q2
    · rename_i b xs e
      obtain ⟨y, us, g1, g2, g3, _⟩ := p2.own i _ _ e
      rw [e1] at g1; cases g1
      obtain ⟨p3, n3⟩ := p2.setOwn e e1 (g3.append (.cons d2 .nil))
      exact ⟨x, us, v, rfl, rfl, g2, by rw [g3.length]; exact q2.1, k1 _ _ _ ((n1.trans n2).trans n3) p3 q2.2⟩
    · exact q2.elim
theorem s_ext {st' : Stmt} (h : PS X st' (tDrop (tBM X.K "list" rExtend (tVar i) (tCons (tD c w) tNil)))) : PS X st' (tDS c fun E d ρ => isOwn ρ i ∧ w E ρ fun r ρ1 => match r with
    | .own ys => match gt ρ1 i with
      | some (.own b xs) => LenOk (xs.length + ys.length) ∧ d.nx (ρ1.set i (some (.own b (xs ++ ys))))
      | _ => False
    | _ => False) :=
  h.imp fun D σ H ⟨F, ρ, E, d, rp, ⟨io, hw⟩, xc, k1, _, _, _⟩ => by
    obtain ⟨b0, xs0, x, us0, e0, e1, e2, e3⟩ := own_at rp io
    refine ⟨.ref x, e1, .inl ⟨rfl, us0, .inl (.inl e2)⟩, F, ρ, E, _, rp, hw, xc, fun v H1 ρ1 r n1 ok1 f1 q1 => ?_⟩
    split at q1
    · rename_i ys
      split at q1
      · rename_i b xs e
        obtain ⟨z, zs, rfl, z2, z3⟩ := ok1.r1
        obtain ⟨y, us, g1, g2, g3, _⟩ := ok1.rp'.own i _ _ e
        rw [e1] at g1; cases g1
        obtain ⟨p3, n3⟩ := ok1.rp'.setOwn e e1 (g3.append (z3.less fun a q => .inl q))
        exact ⟨x, z, us, zs, rfl, rfl, g2, z2, by rw [g3.length, z3.length]; exact q1.1, k1 _ _ _ (n1.trans n3) p3 q1.2⟩
      · exact q1.elim
    · exact q1.elim
theorem s_ins {st' : Stmt} (h : PS X st' (tDrop (tBM X.K "list" (fun x vs H Q => ∃ (l : Addr) (xs : List V) (i : Int) (y : V), x = .ref l ∧ vs = [.int i, y] ∧ H l = some (.lst xs) ∧ xs.length < sizeLine ∧ 0 ≤ i ∧ i < 2 ^ 63 ∧
    Q .non (upd H l (.lst (xs.take i.toNat ++ [y] ++ xs.drop i.toNat)))) (tVar i) (tCons (tD c wa) (tCons (tD c wb) tNil))))) : PS X st' (tDS c fun E d ρ => isOwn ρ i ∧ wa E ρ fun q ρ1 => wb E ρ1 fun r ρ2 => esc r ρ2 fun x ρ3 => match q with
    | .dat (.int j) => match gt ρ3 i with
      | some (.own io xs) => (0 ≤ j ∧ j ≤ xs.length ∧ xs.length < 1000) ∧ d.nx (ρ3.set i (some (.own io (xs.take j.toNat ++ x :: xs.drop j.toNat))))
      | _ => False
    | _ => False) :=
  h.imp fun D σ H ⟨F, ρ, E, d, rp, ⟨io, hw⟩, xc, k1, _, _, _⟩ => by
    obtain ⟨b0, xs0, x, us0, e0, e1, e2, e3⟩ := own_at rp io
    refine ⟨.ref x, e1, .inl ⟨rfl, us0, .inl (.inl e2)⟩, F, ρ, E, _, rp, hw, xc, fun v H1 ρ1 q n1 ok1 f1 q1 => ?_⟩
    refine ⟨F, ρ1, E, _, ok1.rp', q1, xc.nx n1, fun u H2 ρ2 r n2 ok2 f2 q2 => ?_⟩
    obtain ⟨dx, ρ3, q3, p3, d3, n3⟩ := esc_ok ok2 q2
    split at q3
    · rename_i j
      obtain rfl := (DR.dv ok1.r1').int
      split at q3
      · rename_i b xs e
        obtain ⟨y, us, g1, g2, g3, _⟩ := p3.own i _ _ e
        rw [e1] at g1; cases g1
        have dv : DVs c.K H2 (Bad F σ ρ3) (us.take j.toNat ++ [u] ++ us.drop j.toNat) (xs.take j.toNat ++ dx :: xs.drop j.toNat) := by
          rw [List.append_assoc]
          exact (g3.take _).append (.cons d3 (g3.drop _))
        obtain ⟨p4, n4⟩ := p3.setOwn e e1 dv
        have hz := q3.1
        exact ⟨x, us, j, u, rfl, rfl, g2, by rw [g3.length, sizeLine_eq]; omega, hz.1, by omega, k1 _ _ _ (((n1.trans n2).trans n3).trans n4) p4 q3.2⟩
      · exact q3.elim
    · exact q3.elim
/-! ### x.pop(e), a.index(b) -/
theorem d_pop (hw : DTE) {e' : Expr} (h : PE X e' (tBM X.K "list" rPopAt (tVar i) (tCons (tD c hw) tNil))) : PE X e' (tD c fun E ρ Q => (match gt ρ i with
    | some (.own _ _) => True
    | _ => False) ∧ optI (some (.of hw)) E ρ fun j ρ1 => match gt ρ1 i with
    | some (.own b xs) => match ixN xs.length (j.getD (-1)) with
      | some n => match xs[n]? with
        | some x => xs.length ≤ 1000 ∧ Q (.dat x) (ρ1.set i (some (.own b (xs.eraseIdx n))))
        | none => False
      | none => False
    | _ => False) :=
  h.imp fun σ H Q ⟨F, ρ, E, Qd, rp, ⟨io, hw⟩, xc, kk⟩ => by
    obtain ⟨b0, xs0, x, us0, e0, e1, e2, e3⟩ := own_at rp io
    refine ⟨.ref x, e1, .inl ⟨rfl, us0, .inl (.inl e2)⟩, F, ρ, E, _, rp, hw, xc, fun v H1 ρ1 q n1 ok1 f1 q1 => ?_⟩
    split at q1
    · rename_i j
      obtain rfl := (DR.dv ok1.r1').int
      split at q1
      · rename_i b xs e
        obtain ⟨y, us, g1, g2, g3, _⟩ := ok1.rp'.own i _ _ e
        rw [e1] at g1; cases g1
        split at q1
        · rename_i m em
          split at q1
          · rename_i z ez
            obtain ⟨vz, z1, z2⟩ := g3.get ez
            have er : ∀ {zs : List D} {ws : List V} (m : Nat), DVs c.K H1 (Bad F σ ρ1) ws zs → DVs c.K H1 (Bad F σ ρ1) (ws.eraseIdx m) (zs.eraseIdx m) := fun {zs} => by
              induction zs with
              | nil => intro ws m h; cases h; exact .nil
              | cons d ds ih =>
                intro ws m h
                cases h with
                | cons a r =>
                  cases m with
                  | zero => exact r
                  | succ m => exact .cons a (ih m r)
            obtain ⟨p3, n3⟩ := ok1.rp'.setOwn e e1 (er m g3)
            obtain ⟨s1, s2, s3, s4⟩ := ixN_seq em
            have hlen : us.length ≤ 2 ^ 62 := by have := q1.1; rw [g3.length]; omega
            exact ⟨x, us, j, m, vz, rfl, rfl, g2, by have := g3.length; simp at s3 s4; omega, by have := g3.length; simp at s4; omega, by rw [g3.length]; exact s1, z1, kk _ _ _ _ (n1.trans n3) (.ofDat p3 (n3.dv z2)) (fun _ q => q.elim) q1.2⟩
          · exact q1.elim
        · exact q1.elim
      · exact q1.elim
    · exact q1.elim
end
end DL
/-! DL18: a def by its body. -/
namespace DL
open PySem PySem.Spec PyProof.Rows L2
/-- what the lists of the caller hold at the end -/
def outs : List Sl → Rho → Option (List (List D))
  | [], _ => some []
  | .dat _ :: sl, _ :: ρ => outs sl ρ
  | .own true _ :: sl, some (.own true ys) :: ρ => (outs sl ρ).map (ys :: ·)
  | _, _ => none
def fin (sl : List Sl) (Q : Rs → List (List D) → Prop) (r : Rs) (ρ : Rho) : Prop := match outs sl ρ with
  | some o => match r with
    | .dat d => Q (.dat d) o
    | .own xs => Q (.own xs) o
    | .ref i => match gt ρ i with
      | some (.dat d) => Q (.dat d) o
      | some (.own false xs) => Q (.own xs) o
      | _ => False
  | none => False
def wpF (Γ : Gam) (n m : Nat) (body : List Sm) : DSp := fun sl Q E => sl.length = n ∧
  wpSs Γ body E ⟨fin sl Q (.dat .none), fin sl Q, fun _ => False, fun _ => False⟩ (sl.map some ++ List.replicate (m - n) none)
theorem gt_app : ∀ (a b : Rho) (i : Nat), gt (a ++ b) i = if i < a.length then gt a i else gt b (i - a.length)
  | [], b, i => by simp
  | x :: a, b, 0 => by simp [gt]
  | x :: a, b, i + 1 => by simp [gt, gt_app a b i]
theorem gt_rep : ∀ (k i : Nat), gt (List.replicate k none) i = none
  | 0, _ => rfl
  | k + 1, 0 => rfl
  | k + 1, i + 1 => by simpa [List.replicate_succ, gt] using gt_rep k i
theorem gt_some : ∀ (sl : List Sl) (i : Nat), gt (sl.map some) i = sl[i]?
  | [], _ => by simp [gt]
  | s :: sl, 0 => by simp [gt]
  | s :: sl, i + 1 => by simpa [gt] using gt_some sl i
theorem get_start {N : List Str} {vs : List V} {i : Nat} {v : V} (h : (L2.start N vs)[i]? = some (some v)) : vs[i]? = some v := by
  unfold L2.start at h
  by_cases hi : i < vs.length
  · rw [List.getElem?_append_left (by simpa using hi), List.getElem?_map] at h
    cases e : vs[i]? with
    | none => rw [e] at h; cases h
    | some a => rw [e] at h; cases h; rfl
  · rw [List.getElem?_append_right (by simpa using hi), List.getElem?_replicate] at h
    split at h <;> cases h
/-- the slots at the entry -/
theorem Rp.start {K : PySem.W.Frag} {IO : Nat → Option Addr} {F : Addr → Prop} {H : Hp} {vs : List V} {sl : List Sl} {N : List Str} (p : Rp K IO F H (vs.map some) (sl.map some)) (hl : vs.length ≤ N.length) :
    Rp K IO F H (L2.start N vs) (sl.map some ++ List.replicate (N.length - sl.length) none) ∧ (∀ a, Own (L2.start N vs) (sl.map some ++ List.replicate (N.length - sl.length) none) a → Own (vs.map some) (sl.map some) a) := by
  have len := p.len
  simp only [List.length_map] at len
  have g : ∀ {i s}, gt (sl.map some ++ List.replicate (N.length - sl.length) none) i = some s → gt (sl.map some) i = some s := fun {i s} e => by
    rw [gt_app] at e
    split at e
    · exact e
    · rw [gt_rep] at e; cases e
  have st : ∀ {i} {v : V}, (vs.map some)[i]? = some (some v) → (L2.start N vs)[i]? = some (some v) := fun {i v} e => by
    unfold L2.start
    have hi : i < (vs.map some).length := by
      rcases Nat.lt_or_ge i (vs.map some).length with h | h
      · exact h
      · rw [List.getElem?_eq_none h] at e; cases e
    rw [List.getElem?_append_left hi]; exact e
  have ts : ∀ {i} {v : V}, (L2.start N vs)[i]? = some (some v) → (vs.map some)[i]? = some (some v) := fun {i v} e => by
    rw [List.getElem?_map, get_start e]; rfl
  have ow : ∀ a, Own (L2.start N vs) (sl.map some ++ List.replicate (N.length - sl.length) none) a → Own (vs.map some) (sl.map some) a := fun a ⟨i, io, xs, h1, h2⟩ => ⟨i, io, xs, g h1, ts h2⟩
  have km : ∀ a o, H a = some o → ¬ Bad F (vs.map some) (sl.map some) a → H a = some o ∧ ¬ Bad F (L2.start N vs) (sl.map some ++ List.replicate (N.length - sl.length) none) a := fun a o e nb => ⟨e, fun q => nb (q.imp id (ow a))⟩
  refine ⟨⟨fun i d e => ?_, fun i io xs e => ?_, fun i j io jo xs ys a h1 h2 h3 h4 => p.inj i j io jo xs ys a (g h1) (g h2) (ts h3) (ts h4), p.fdom, ?_⟩, ow⟩
  · obtain ⟨v, h1, h2⟩ := p.dat i d (g e)
    exact ⟨v, st h1, h2.mono km⟩
  · obtain ⟨a, ws, h1, h2, h3, h4, h5⟩ := p.own i io xs (g e)
    exact ⟨a, ws, st h1, h2, h3.mono km, h4, h5⟩
  · unfold L2.start
    simp only [List.length_append, List.length_map, List.length_replicate]
    omega
/-- what outs tells -/
theorem outs_at : ∀ {sl : List Sl} {ρ : Rho} {o : List (List D)}, outs sl ρ = some o → ∀ {i io xs}, (puts sl o)[i]? = some (Sl.own io xs) → io = true ∧ gt ρ i = some (.own true xs) ∧ ∃ zs, sl[i]? = some (.own true zs)
  | [], _, _, _, i, io, xs, e => by simp [puts] at e
  | .dat d :: sl, [], o, h, i, io, xs, e => by simp [outs] at h
  | .dat d :: sl, y :: ρ, o, h, i, io, xs, e => by
    cases i with
    | zero => simp [puts] at e
    | succ i => simpa [gt] using outs_at (sl := sl) (ρ := ρ) h (i := i) (by simpa [puts] using e)
  | .own true zs :: sl, [], o, h, i, io, xs, e => by simp [outs] at h
  | .own true zs :: sl, none :: ρ, o, h, i, io, xs, e => by simp [outs] at h
  | .own true zs :: sl, some (.dat d) :: ρ, o, h, i, io, xs, e => by simp [outs] at h
  | .own true zs :: sl, some (.own false ys) :: ρ, o, h, i, io, xs, e => by simp [outs] at h
  | .own true zs :: sl, some (.own true ys) :: ρ, o, h, i, io, xs, e => by
    simp only [outs, Option.map_eq_some_iff] at h
    obtain ⟨o', h1, rfl⟩ := h
    cases i with
    | zero => simp [puts] at e; obtain ⟨rfl, rfl⟩ := e; simp [gt]
    | succ i => simpa [gt] using outs_at (sl := sl) (ρ := ρ) h1 (i := i) (by simpa [puts] using e)
  | .own false zs :: sl, [], o, h, i, io, xs, e => by simp [outs] at h
  | .own false zs :: sl, y :: ρ, o, h, i, io, xs, e => by simp [outs] at h
theorem outs_io : ∀ {sl : List Sl} {ρ : Rho} {o : List (List D)}, outs sl ρ = some o → ∀ {i io xs}, sl[i]? = some (Sl.own io xs) → io = true ∧ ∃ ys, gt ρ i = some (.own true ys) ∧ (puts sl o)[i]? = some (.own true ys)
  | [], _, _, _, i, io, xs, e => by simp at e
  | .dat d :: sl, [], o, h, i, io, xs, e => by simp [outs] at h
  | .dat d :: sl, y :: ρ, o, h, i, io, xs, e => by
    cases i with
    | zero => simp at e
    | succ i => simpa [gt, puts] using outs_io (sl := sl) (ρ := ρ) h (i := i) (by simpa using e)
  | .own true zs :: sl, [], o, h, i, io, xs, e => by simp [outs] at h
  | .own true zs :: sl, none :: ρ, o, h, i, io, xs, e => by simp [outs] at h
  | .own true zs :: sl, some (.dat d) :: ρ, o, h, i, io, xs, e => by simp [outs] at h
  | .own true zs :: sl, some (.own false ys) :: ρ, o, h, i, io, xs, e => by simp [outs] at h
  | .own true zs :: sl, some (.own true ys) :: ρ, o, h, i, io, xs, e => by
    simp only [outs, Option.map_eq_some_iff] at h
    obtain ⟨o', h1, rfl⟩ := h
    cases i with
    | zero => simp at e; obtain ⟨rfl, rfl⟩ := e; simp [gt, puts]
    | succ i => simpa [gt, puts] using outs_io (sl := sl) (ρ := ρ) h1 (i := i) (by simpa using e)
  | .own false zs :: sl, [], o, h, i, io, xs, e => by simp [outs] at h
  | .own false zs :: sl, y :: ρ, o, h, i, io, xs, e => by simp [outs] at h
theorem puts_dat : ∀ {sl : List Sl} {o : List (List D)} {i : Nat} {d : D}, (puts sl o)[i]? = some (.dat d) ↔ sl[i]? = some (.dat d)
  | [], _, _, _ => by simp [puts]
  | .dat d :: sl, o, 0, _ => by simp [puts]
  | .dat d :: sl, o, i + 1, _ => by simpa [puts] using puts_dat (sl := sl)
  | .own b x :: sl, [], 0, _ => by simp [puts]
  | .own b x :: sl, [], i + 1, _ => by simpa [puts] using puts_dat (sl := sl)
  | .own b x :: sl, y :: o, 0, _ => by simp [puts]
  | .own b x :: sl, y :: o, i + 1, _ => by simpa [puts] using puts_dat (sl := sl)
theorem puts_len : ∀ {sl : List Sl} {o : List (List D)}, (puts sl o).length = sl.length
  | [], _ => by simp [puts]
  | .dat d :: sl, o => by simpa [puts] using puts_len (sl := sl)
  | .own b x :: sl, [] => by simpa [puts] using puts_len (sl := sl)
  | .own b x :: sl, y :: o => by simpa [puts] using puts_len (sl := sl)
section
variable {K : PySem.W.Frag} {F : Addr → Prop} {H H' : Hp} {vs : List V} {sl : List Sl} {N : List Str} {σ' : St} {ρ' : Rho} {o : List (List D)} {v : V} {r : Rs}
theorem io_at {i : Nat} {a : Addr} (h : IOof vs i = some a) : (vs.map some)[i]? = some (some (V.ref a)) := by
  unfold IOof at h
  split at h
  · rename_i b e
    cases h
    rw [List.getElem?_map, e]; rfl
  · cases h
/-- the slots behind the call, more being foreign -/
theorem back (S G : Addr → Prop) (gF : ∀ b, F b → G b) (s4 : ∀ b, S b → Bad G σ' ρ' b) (p0 : Rp K (IOof vs) F H (vs.map some) (sl.map some)) (n : ∀ a o', H a = some o' → ¬ Own (vs.map some) (sl.map some) a → H' a = some o') (th : ∀ a o, H a = some o → ∃ o', H' a = some o') (p : Rp K (IOof vs) G H' σ' ρ') (ho : outs sl ρ' = some o)
    (s1 : ∀ b, S b → H b = none) (s2 : ∀ b, S b → H' b ≠ none) (s3 : ∀ b i xs, S b → gt ρ' i = some (.own true xs) → σ'[i]? ≠ some (some (.ref b))) :
    Nx (vs.map some) (sl.map some) H (vs.map some) ((puts sl o).map some) H' ∧ Rp K (IOof vs) (fun b => F b ∨ S b) H' (vs.map some) ((puts sl o).map some) ∧
    (∀ b, Own (vs.map some) ((puts sl o).map some) b → Own σ' ρ' b ∧ ∃ i xs, gt ρ' i = some (.own true xs) ∧ σ'[i]? = some (some (V.ref b))) := by
  have at' : ∀ {i io xs}, gt ((puts sl o).map some) i = some (.own io xs) → io = true ∧ gt ρ' i = some (.own true xs) ∧ ∃ a ws, σ'[i]? = some (some (V.ref a)) ∧ (vs.map some)[i]? = some (some (V.ref a)) ∧ H' a = some (.lst ws) ∧ DVs K H' (Bad G σ' ρ') ws xs ∧ ¬ G a ∧ IOof vs i = some a ∧ ∃ zs, sl[i]? = some (.own true zs) := fun {i io xs} e => by
    rw [gt_some] at e
    obtain ⟨h1, h2, h3⟩ := outs_at ho e
    obtain ⟨a, ws, g1, g2, g3, g4, g5⟩ := p.own i _ _ h2
    exact ⟨h1, h2, a, ws, g1, io_at (g5 rfl), g2, g3, g4, g5 rfl, h3⟩
  have ow : ∀ b, Own (vs.map some) ((puts sl o).map some) b → Own σ' ρ' b ∧ ∃ i xs, gt ρ' i = some (.own true xs) ∧ σ'[i]? = some (some (V.ref b)) := fun b ⟨i, io, xs, h1, h2⟩ => by
    obtain ⟨rfl, g1, a, ws, g2, g3, _⟩ := at' h1
    rw [h2] at g3; cases g3
    exact ⟨⟨i, true, xs, g1, g2⟩, i, xs, g1, g2⟩
  have nx : Nx (vs.map some) (sl.map some) H (vs.map some) ((puts sl o).map some) H' := ⟨n, fun a ⟨i, io, xs, h1, h2⟩ => by
    obtain ⟨rfl, g1, b, ws, g2, g3, _, _, _, _, zs, g4⟩ := at' h1
    exact .inl ⟨i, true, zs, by rw [gt_some]; exact g4, h2⟩, th⟩
  refine ⟨nx, ⟨fun i d e => ?_, fun i io xs e => ?_, fun i j io jo xs ys a h1 h2 h3 h4 => ?_, fun a q => ?_, ?_⟩, ow⟩
  · rw [gt_some] at e
    obtain ⟨u, h1, h2⟩ := p0.dat i d (by rw [gt_some]; exact puts_dat.mp e)
    refine ⟨u, h1, h2.mono fun a o' e nb => ?_⟩
    obtain ⟨h3, h4⟩ := nx.bad (F := F) a o' e nb
    exact ⟨h3, fun q => by
      rcases q with (q | q) | q
      · exact h4 (.inl q)
      · rw [s1 _ q] at e; cases e
      · exact h4 (.inr q)⟩
  · obtain ⟨rfl, g1, a, ws, g2, g3, g4, g5, g6, g7, _⟩ := at' e
    refine ⟨a, ws, g3, g4, g5.mono fun b o' e' nb => ⟨e', fun q => ?_⟩, fun q => ?_, fun _ => g7⟩
    · rcases q with (q | q) | q
      · exact nb (.inl (gF _ q))
      · exact nb (s4 _ q)
      · exact nb (.inr (ow b q).1)
    · rcases q with q | q
      · exact g6 (gF _ q)
      · exact s3 _ _ _ q g1 g2
  · obtain ⟨rfl, f1, b, _, f2, f3, _⟩ := at' h1
    obtain ⟨rfl, g1, b', _, g2, g3, _⟩ := at' h2
    rw [h3] at f3; cases f3
    rw [h4] at g3; cases g3
    exact p.inj i j _ _ _ _ a f1 g1 f2 g2
  · rcases q with q | q
    · exact p.fdom a (gF _ q)
    · exact s2 a q
  · have := p0.len
    simp only [List.length_map] at this ⊢
    rw [puts_len]; exact this
theorem fin_ok {Qd : Rs → List (List D) → Prop} {Q : VK} (hl : vs.length ≤ N.length) (p0 : Rp K (IOof vs) F H (vs.map some) (sl.map some))
    (n : Nx (L2.start N vs) (sl.map some ++ List.replicate (N.length - sl.length) none) H σ' ρ' H') (ok : RsOk K (IOof vs) F H' σ' ρ' v r) (fr' : ∀ a, fr v r a → H a = none) (q : fin sl Qd r ρ')
    (k : ∀ v H' r outs, Nx (vs.map some) (sl.map some) H (vs.map some) ((puts sl outs).map some) H' → RsOk K (IOof vs) F H' (vs.map some) ((puts sl outs).map some) v r → noref r → (∀ a, fr v r a → H a = none) → Qd r outs → Q v H') : Q v H' := by
  obtain ⟨_, ow0⟩ := Rp.start (N := N) p0 hl
  have kp : ∀ a o', H a = some o' → ¬ Own (vs.map some) (sl.map some) a → H' a = some o' := fun a o' e q => n.keep a o' e fun z => q (ow0 a z)
  unfold fin at q
  cases ho : outs sl ρ' with
  | none => rw [ho] at q; exact q.elim
  | some o =>
  rw [ho] at q
  -- a datum
  have dat : ∀ d, DV K H' (Bad F σ' ρ') v d → Qd (.dat d) o → Q v H' := fun d dv q => by
    obtain ⟨nx, p1, ow⟩ := back (fun _ => False) F (fun _ q => q) (fun _ q => q.elim) p0 kp n.there ok.rp' ho (fun _ q => q.elim) (fun _ q => q.elim) (fun _ _ _ q => q.elim)
    refine k v H' (.dat d) o nx (.ofDat (p1.less fun a q => .inl q) (dv.mono fun b o' e nb => ⟨e, fun q => ?_⟩)) trivial (fun _ q => q.elim) q
    rcases q with q | q
    · exact nb (.inl q)
    · exact nb (.inr (ow b q).1)
  cases r with
  | dat d => exact dat d ok.r1' q
  | own xs =>
    obtain ⟨a, ws, rfl, e2, e3⟩ := ok.r1
    obtain ⟨nx, p1, ow⟩ := back (fun b => fr (.ref a) (.own xs) b) (FF F (.ref a) (.own xs)) (fun _ q => .inl q) (fun b q => .inl (.inr q)) p0 kp n.there ok.rp ho fr' (fun b q => by cases q; rw [e2]; simp)
      (fun b i ys q h1 h2 => ok.rp.own_ne ⟨i, _, _, h1, h2⟩ (.inr q))
    refine k (.ref a) H' (.own xs) o nx ⟨p1, ⟨a, ws, rfl, e2, e3.mono fun b o' e nb => ⟨e, fun q => nb ?_⟩⟩, ok.nf⟩ trivial fr' q
    rcases q with q | q
    · exact .inl q
    · exact .inr (ow b q).1
  | ref i =>
    have e1 : σ'[i]? = some (some v) := ok.r1
    dsimp only at q
    split at q
    · rename_i d g
      obtain ⟨u, h1, h2⟩ := ok.rp'.dat i _ g
      rw [e1] at h1; cases h1
      exact dat d h2 q
    · rename_i xs g
      obtain ⟨a, ws, h1, h2, h3, h4, h5⟩ := ok.rp'.own i _ _ g
      rw [e1] at h1; cases h1
      have oa : Own σ' ρ' a := ⟨i, _, _, g, e1⟩
      have ne : ∀ {j ys}, gt ρ' j = some (.own true ys) → σ'[j]? ≠ some (some (.ref a)) := fun {j ys} g2 z => by
        have := ok.rp'.inj i j _ _ _ _ a g g2 e1 z
        subst this
        rw [g] at g2; cases g2
      have fa : H a = none := by
        rcases n.sub a oa with z | z
        · obtain ⟨j, io, zs, g1, g2⟩ := ow0 a z
          rw [gt_some] at g1
          obtain ⟨rfl, ys, g3, _⟩ := outs_io ho g1
          obtain ⟨b, _, f1, _, _, _, f5⟩ := ok.rp'.own j _ _ g3
          have := io_at (f5 rfl)
          rw [g2] at this; cases this
          exact (ne g3 f1).elim
        · exact z
      have hS : ∀ {b}, fr (V.ref a) (Rs.own xs) b → b = a := fun {b} q => by cases q; rfl
      obtain ⟨nx, p1, ow⟩ := back (fun b => fr (.ref a) (.own xs) b) F (fun _ q => q) (fun b q => .inr (by rw [hS q]; exact oa)) p0 kp n.there ok.rp' ho (fun b q => by rw [hS q]; exact fa) (fun b q => by rw [hS q, h2]; simp)
        (fun b j ys q g2 z => ne g2 (by rw [hS q] at z; exact z))
      refine k (.ref a) H' (.own xs) o nx ⟨p1, ⟨a, ws, rfl, h2, h3.mono fun b o' e nb => ⟨e, fun q => nb ?_⟩⟩, fun b q => by rw [hS q]; exact h4⟩ trivial (fun b q => by rw [hS q]; exact fa) q
      rcases q with (q | q) | q
      · exact .inl q
      · rw [hS q]; exact .inr oa
      · exact .inr (ow b q).1
    · exact q.elim
end
end DL
/-! DL19: a def's promise from its body; a law's end. -/
namespace DL
open PySem PySem.Spec PyProof.Rows L2
/-- a def that runs with no text being shown around -/
theorem fn_ofG {CX : CXT} {P : Program} {w : World} {K : PySem.W.Frag} {mg : Str → Option Value} {base : Heap} {k : Nat} {x qual : Str} {st : Stmt} {f : Addr} {fd : FuncData} {N ps : List Str} {sp : Sp} (F : C8.Fun K x qual st f fd) (S : FnScope N ps (C8.fnScope st))
    (len : ∀ vs H Q E, sp vs H Q E → vs.length = ps.length)
    (hbody : ∀ (cdv : Value) (A : Around) (outer : List Env) (s : Shared) (H : Hp) (vs : List V) (Q : VK) (E : XK), A.guards = some [] → Room k (A.deeper (envOfC qual (C8.fnScope st) s.heap.objs.size f cdv)) → sp vs H Q E →
      ∃ t, PSs (cxOf CX P w K mg base N qual (C8.fnScope st) f cdv A outer s H E) (C8.fnBody st) t ∧ t { nx := fun _ H' => Q .non H', rt := Q } (L2.start N vs) H) :
    FnG P w K mg base CX (k + 1) f fd ps sp := by
  obtain ⟨oc, od, dV, kV, doc, pm, an, cdv, ct, osl, rfl, lk, hcd⟩ := F.ex
  refine ⟨len, fun A outer s H args us vs Q E hg hr e0 hb r hsp => ?_⟩
  have hl := len _ _ _ _ hsp
  have KX : K.In s.heap := e0.mod.kin.keeps fun b o e => (e0.bs b o e).1
  refine codeAny_call_function hr.depth (KX _ _ lk) rfl S.co S.gen rfl (PySem.W.codeRec_of KX hcd) (hb _ _ _ _ ?_)
  refine wpAny_newFunctionEnv_cells S.kind (fun ⟨n, v⟩ hy => (S.par n (List.of_mem_zip hy).1).imp id fun q => ⟨q, PySem.W.cellsFrom_some _ _ _ (.inl q)⟩) fun env he s1 x => ?_
  subst he
  refine ⟨(e0.mod.nolimit.keeps fun b o e => (e0.bs b o e).1).keeps x.toInCall.keep, codeAny_func ?_⟩
  obtain ⟨t, ht, hq⟩ := hbody cdv A outer s H vs Q E hg (hr.deeper _) hsp
  refine wpAny_mono (ht.run [] s1 (L2.start N vs) H _ (inv_start S hr.hd e0 hl r x) hq) (fun fl s' hs => ?_) fun e s' hs => hs
  cases fl with
  | ret u =>
    obtain ⟨v, _, H', J, rv, q⟩ := hs
    exact ⟨v, H', J.os, J.bare, J.base, J.hok, rv, q⟩
  | next =>
    obtain ⟨_, H', J, q⟩ := hs
    exact ⟨V.non, H', J.os, J.bare, J.base, J.hok, rfl, q⟩
  | brk =>
    obtain ⟨_, _, _, q⟩ := hs
    exact q.elim
  | cont =>
    obtain ⟨_, _, _, q⟩ := hs
    exact q.elim
/-- .. at the level of data -/
theorem fn_rule {CX : CXT} {P : Program} {w : World} {K : PySem.W.Frag} {mg : Str → Option Value} {base : Heap} {k n : Nat} {x qual : Str} {st : Stmt} {f : Addr} {fd : FuncData} {N ps : List Str} {Γ : Gam} {body : List Sm} {xt : Str → Option (Addr × Str)}
    (F : C8.Fun K x qual st f fd) (S : FnScope N ps (C8.fnScope st)) (hp : ps.length = n)
    (hbody : ∀ (cdv : Value) (A : Around) (outer : List Env) (s : Shared) (H : Hp) (vs : List V) (E : XK), A.guards = some [] → Room k (A.deeper (envOfC qual (C8.fnScope st) s.heap.objs.size f cdv)) →
      PSs (cxOf CX P w K mg base N qual (C8.fnScope st) f cdv A outer s H E) (C8.fnBody st) (tDS ⟨K, xt, IOof vs, E⟩ (wpSs Γ body))) :
    FnG P w K mg base CX (k + 1) f fd ps (hs K xt n (wpF Γ n N.length body)) := by
  refine fn_ofG F S (fun vs H Q E h => by rw [hp]; exact hs_len vs H Q E h) fun cdv A outer s H vs Q E hg hr h => ⟨_, hbody cdv A outer s H vs E hg hr, ?_⟩
  have hn := hs_len vs H Q E h
  obtain ⟨F', sl, Qd, Ed, h1, p0, ⟨_, hw⟩, kq, kx⟩ := h
  have hN : vs.length ≤ N.length := by have := congrArg List.length S.pre; rw [List.length_take] at this; omega
  have hsl : sl.length = n := h1
  obtain ⟨p1, ow⟩ := Rp.start (N := N) p0 hN
  rw [hsl] at p1 ow
  have kont : ∀ v H' σ' ρ' r, Nx (L2.start N vs) (sl.map some ++ List.replicate (N.length - n) none) H σ' ρ' H' → RsOk K (IOof vs) F' H' σ' ρ' v r → (∀ a, fr v r a → H a = none) → fin sl Qd r ρ' → Q v H' := fun v H' σ' ρ' r n1 ok f1 q =>
    fin_ok (N := N) hN p0 (by rw [hsl]; exact n1) ok f1 q kq
  refine ⟨F', _, Ed, _, p1, hw, fun cls dx H' xx kp ok e => kx cls dx H' xx (fun a o e q => kp a o e fun z => q (ow a z)) ok e, fun σ' H' ρ' n1 p1 q => ?_, kont, fun _ _ _ _ _ q => q.elim, fun _ _ _ _ _ q => q.elim⟩
  exact kont .non H' σ' ρ' (.dat .none) n1 (.ofDat p1 .non) (fun _ z => z.elim) q
end DL
/-! DL20: a law's end. -/
namespace DL
open PySem PySem.Spec PyProof.Rows L2
def IsScript (spd : DSp) (n : Nat) : Prop := ∀ ns : List Int, ns.length ≤ n → spd [.dat (.list (ns.map .int))] (fun r _ => r = .dat (.bool true)) fun _ => False
/-- the call of a law's def -/
theorem law_call {P : Program} {w : World} {K : PySem.W.Frag} {mg mb : Str → Option Value} {CX : CXT} {k n : Nat} {fa a : Addr} {fd : FuncData} {x : Str} {spd : DSp} {xt : Str → Option (Addr × Str)} {s₁ : Shared} {vs : List Value} {ns : List Int}
    (KX : K.In s₁.heap) (hns : s₁.heap.Ns mainGlobals mg) (hb : s₁.heap.Ns builtinsNs mb) (hbb : ∀ x : Str, x ≠ "__name__" → mb x = bootBuiltins x) (hlim : s₁.heap.NoLimit) (hg : s₁.gens = #[])
    (ha : s₁.heap.get? a = some { cls := .type "list", data := .seq vs.toArray }) (hi : IntsAre vs ns) (hn : ns.length ≤ n) (hl : n ≤ sizeLine) (hr : Room k callerA)
    (F : ∀ base : Heap, K.In base → base.Ns mainGlobals mg → FnG P w K mg base CX k fa fd [x] (hs K xt 1 spd)) (hbind : ∀ (s : Shared) (u : Value), BindsTo s fd ⟨[u], []⟩ [(x, u)])
    (hsp : IsScript spd n) (hCX : ∀ (H : Hp) (e : Value) (s' : Shared), CX [] H s₁ (fun _ _ _ => False) e s' → False) :
    codeAny (model P w) callerA (.call (.ref fa) ⟨[.ref a], []⟩) (fun r s' => r = .ok (.ret (.bool true)) ∧ OldK s₁.heap s'.heap ∧ s'.os = s₁.os ∧ AllBare s'.gens) s₁ := by
  have hz : ns.length ≤ sizeLine := Nat.le_trans hn hl
  -- T: whether the script is tracked
  have go : ∀ H : Hp, (H = (fun _ => none) ∨ (K.lookup a = none ∧ H = fun b => if b = a then some (.frz { cls := .type "list", data := .seq vs.toArray } (.lst (ns.map V.int))) else none)) → SqLb K H (fun _ => False) a (ns.map V.int) →
      codeAny (model P w) callerA (.call (.ref fa) ⟨[.ref a], []⟩) (fun r s' => r = .ok (.ret (.bool true)) ∧ OldK s₁.heap s'.heap ∧ s'.os = s₁.os ∧ AllBare s'.gens) s₁ := by
    intro H hH hS
    have at' : ∀ {b : Addr} {u : HO}, H b = some u → b = a ∧ K.lookup a = none ∧ u = .frz { cls := .type "list", data := .seq vs.toArray } (.lst (ns.map V.int)) := fun {b u} e => by
      rcases hH with rfl | ⟨h1, rfl⟩
      · cases e
      · by_cases hb : b = a
        · have e' := (if_pos hb).symm.trans e
          cases e'; exact ⟨hb, h1, rfl⟩
        · have e' := (if_neg hb).symm.trans e
          cases e'
    have hid : ∀ {b : Addr} {o : Obj}, s₁.heap.get? b = some o → (∀ u, H b = some u → False) → (hidT s₁.heap H).get? b = some o := fun {b o} e n => hidT_get e (by
      cases q : H b with
      | none => rfl
      | some u => exact (n u q).elim)
    have nsK : ∀ {b : Addr} {m : Str → Option Value}, s₁.heap.Ns b m → (hidT s₁.heap H).Ns b m := fun {b m} ⟨o, es, ep, e, d, r⟩ => ⟨o, es, ep, hid e (fun u q => by
      obtain ⟨rfl, _, _⟩ := at' q
      rw [ha] at e; cases e
      have d' : Data.seq vs.toArray _ = Data.dict es ep := d
      cases d'), d, r⟩
    have hKb : K.In (hidT s₁.heap H) := fun b o e => hid (KX b o e) fun u q => by
      obtain ⟨rfl, h, _⟩ := at' q
      rw [h] at e; cases e
    have hM : Mod K mg (hidT s₁.heap H) := ⟨hKb, nsK hns, ⟨mb, nsK hb, hbb⟩, let ⟨mc, h1, h2⟩ := hlim; ⟨mc, nsK h1, h2⟩⟩
    have hok : HOk P w H s₁.heap := fun b u z => by
      obtain ⟨rfl, _, rfl⟩ := at' z
      exact ⟨ha, by rw [List.length_map]; exact hz, vs, _, vals_ints hi, ha⟩
    have e0 : Env0 P w K mg (hidT s₁.heap H) callerA [] s₁ H := ⟨rfl, hM, fun b o e => of_hidT e, Nat.le_of_eq (hidT_size _ _), trivial, fun b hb => absurd (show b ∈ ([] : List Addr) from hb) (by simp), hok, .of_eq hg⟩
    have sp : hs K xt 1 spd [.ref a] H (fun v _ => v = .bl true) fun _ _ _ => False := by
      refine ⟨fun _ => False, [.dat (.list (ns.map .int))], _, _, rfl, ⟨fun i d e => ?_, fun i io xs e => ?_, fun i j io jo xs ys b e => ?_, fun b q => q.elim, rfl⟩, hsp ns hn, fun v H' r outs _ ok _ _ q => ?_, fun _ _ _ _ _ _ q => q⟩
      · cases i with
        | zero =>
          simp only [List.map_cons, gt] at e
          cases e
          refine ⟨_, rfl, .lst ?_ (DVs.of_ints ns)⟩
          rcases hS with ⟨h1, _⟩ | h1
          · refine .inl ⟨h1, fun q => q.elim id fun ⟨j, io, xs, g, _⟩ => ?_⟩
            cases j with
            | zero => simp [gt] at g
            | succ j => simp [gt] at g
          · exact .inr h1
        | succ i => simp [gt] at e
      · cases i with
        | zero => simp [gt] at e
        | succ i => simp [gt] at e
      · cases i with
        | zero => simp [gt] at e
        | succ i => simp [gt] at e
      · subst q
        exact (DR.dv ok.r1').bl
    refine codeAny_mono ((F _ hKb (nsK hns)).run callerA [] s₁ H ⟨[.ref a], []⟩ [.ref a] [.ref a] _ _ rfl hr e0 (hbind s₁ (.ref a)) (.cons rfl .nil) sp) fun r s' h => ?_
    match r, h with
    | .error e, h => exact (hCX H e s' h).elim
    | .ok .next, h => exact h.elim
    | .ok .brk, h => exact h.elim
    | .ok .cont, h => exact h.elim
    | .ok (.ret u), ⟨v, H', os, bare, un, hok', r', q⟩ =>
      subst q
      obtain rfl : u = Value.bool true := r'
      refine ⟨rfl, OldK.of_keep fun b o e => ?_, os, bare⟩
      cases q : H b with
      | none => exact un.keep b o e q (by intro z; exact absurd (show b ∈ ([] : List Addr) from z) (by simp)) (by simp)
      | some u =>
        obtain ⟨rfl, _, rfl⟩ := at' q
        obtain ⟨e2, _⟩ := hok' b _ (un.frzs b _ _ q)
        rw [ha] at e; cases e
        exact e2
  cases hk : K.lookup a with
  | some o =>
    have e := KX a o hk
    rw [ha] at e
    cases e
    exact go (fun _ => none) (.inl rfl) (.inr ⟨_, vs.toArray, _, hk, rfl, rfl, rfl, by rw [List.size_toArray, hi.length]; exact hz, by simpa using vals_ints hi⟩)
  | none => exact go _ (.inr ⟨hk, rfl⟩) (.inl ⟨.inr ⟨_, if_pos rfl⟩, id⟩)
/-- the goal that a law's head leaves -/
theorem walk_of {l : PySem.W.OpenLaw} {n k : Nat} {q : Program} {loose : List Str} {XP : (Str → Option Value) → Heap → Prop} {YP : World → Heap → Prop} {d : DefRec} {K : Params → PySem.W.Frag} {CX : World → CXT} {xt : World → Str → Option (Addr × Str)} {spd : DSp} {x : Str}
    (hn : l.most = some n) (hn2 : n ≤ sizeLine) (hdf : d.params.defaults = []) (hr : Room k callerA)
    (hY : ∀ (w : World) (h : Heap), YP w h → (K w.params).In h)
    (F : ∀ (w : World) (mg : Str → Option Value) (fa : Addr) (h : Heap), (K w.params).In h → h.Ns mainGlobals mg → mg d.name = some (.ref fa) →
      ∃ fd : FuncData, (∀ (s : Shared) (u : Value), BindsTo s fd ⟨[u], []⟩ [(x, u)]) ∧
        ∀ base : Heap, (K w.params).In base → base.Ns mainGlobals mg → FnG l.prog w (K w.params) mg base (CX w) k fa fd [x] (hs (K w.params) (xt w) 1 spd))
    (hsp : IsScript spd n)
    (hCX : ∀ (w : World) (H : Hp) (s : Shared) (e : Value) (s' : Shared), CX w [] H s (fun _ _ _ => False) e s' → False) :
    PySem.W.WalkO q loose XP YP l.row.toRowW d [] (fun f vs => PySem.call f vs) := by
  refine Att.attach_call hn hdf fun w s₀ s₁ mg mb fa o pm cd doc a vs ns G Y ho hd hcd hmg hobj hints hlen hg => ?_
  have KX := hY w _ Y
  obtain ⟨fd, hb, hF⟩ := F w mg fa _ KX G.T.g hmg
  exact law_call KX G.T.g G.T.b G.T.builtins G.T.nolimit hg hobj hints hlen hn2 hr hF hb hsp fun H e s' => hCX w H s₁ e s'
end DL
/-! DL21: enumerate, zip, reversed over lists and tuples. -/
namespace DL
open PySem PySem.Spec PyProof.Rows L2
/-- a list (false) or a tuple (true) -/
def SqA (K : PySem.W.Frag) (H : Hp) (a : Addr) (xs : List V) : Bool → Prop
  | false => SqL K H a xs
  | true => SqT K H a xs
def itSt (it a : Addr) (i : Nat) (h : Heap) : Bool → Prop
  | false => h.IsListIter it a i
  | true => h.IsTupleIter it a i
def seqAt (h : Heap) (a : Addr) (its : Array Value) : Bool → Prop
  | false => h.IsList a its
  | true => h.IsTuple a its
theorem itSt.obj {it a : Addr} {i : Nat} {h : Heap} : ∀ {b : Bool}, itSt it a i h b → ∃ o, h.get? it = some o ∧ ∀ v, o.data ≠ .cell v
  | false, ⟨o, ho, _, hd⟩ => ⟨o, ho, fun v q => by rw [hd] at q; cases q⟩
  | true, ⟨o, ho, _, hd⟩ => ⟨o, ho, fun v q => by rw [hd] at q; cases q⟩
theorem itSt.at {it a : Addr} {i : Nat} {h h' : Heap} : ∀ {b : Bool}, itSt it a i h b → (∀ o, h.get? it = some o → h'.get? it = some o) → itSt it a i h' b
  | false, ⟨o, ho, r⟩, k => ⟨o, k _ ho, r⟩
  | true, ⟨o, ho, r⟩, k => ⟨o, k _ ho, r⟩
theorem inv_seq {X : Cx} {pins : List (Addr × Obj)} {σ : St} {H : Hp} {s : Shared} {a : Addr} {xs : List V} (I : Inv X pins σ H s) : ∀ {b : Bool}, SqA X.K H a xs b → ∃ its : List Value, Vals xs its ∧ seqAt s.heap a its.toArray b ∧ xs.length ≤ sizeLine
  | false, h => let ⟨its, r, p, z⟩ := I.list h; ⟨its, r, p.isList, z⟩
  | true, h => let ⟨its, r, p, z⟩ := I.tuple h; ⟨its, r, p, z⟩
theorem inv_inj {X : Cx} {pins : List (Addr × Obj)} {σ : St} {H : Hp} {s : Shared} {a : Addr} {xs ys : List V} (I : Inv X pins σ H s) : ∀ {b : Bool}, SqA X.K H a xs b → SqA X.K H a ys b → xs = ys
  | false, h, g => I.list_inj h g
  | true, h, g => I.tuple_inj h g
theorem seq_ne {it a : Addr} {i : Nat} {h : Heap} {its : Array Value} : ∀ {b : Bool}, itSt it a i h b → seqAt h a its b → a ≠ it
  | false, ⟨o, ho, hc, hd⟩, ⟨o2, ho2, hc2, hd2⟩ => fun e => by
    subst e
    rw [ho] at ho2; cases ho2
    rw [hc] at hc2; simp at hc2
  | true, ⟨o, ho, hc, hd⟩, ⟨o2, ho2, hc2, hd2⟩ => fun e => by
    subst e
    rw [ho] at ho2; cases ho2
    rw [hc] at hc2; simp at hc2
theorem drawsA {prog : Program} {w : World} {A : Around} (hh : A.handled = none) (it a : Addr) (hne : a ≠ it) (items : Array Value) :
    ∀ b : Bool, Draws prog w A it [it, a] items.size (fun i v => items[i]? = some v) (fun i h => itSt it a i h b ∧ seqAt h a items b)
  | false => Draws.list hh it a hne items
  | true => Draws.tuple hh it a hne items
def itObj (a : Addr) : Bool → Obj
  | false => { cls := .type "list_iterator", data := .fields #[.ref a, .int 0 0] }
  | true => { cls := .type "tuple_iterator", data := .fields #[.ref a, .int 0 0] }
theorem beginsA (a : Addr) (items : Array Value) : ∀ b : Bool, Begins (.ref a) (itObj a b) (fun h => seqAt h a items b)
  | false => begins_list a items
  | true => begins_tuple a items
theorem itSt.new {it a : Addr} {h : Heap} : ∀ {b : Bool}, h.get? it = some (itObj a b) → itSt it a 0 h b
  | false, e => ⟨_, e, rfl, rfl⟩
  | true, e => ⟨_, e, rfl, rfl⟩
/-! ### enumerate -/
def IteA (K : PySem.W.Frag) (b : Bool) (a : Addr) (_ : Nat) : It :=
  ⟨fun i H => ∃ (xs : List V) (x : V), SqA K H a xs b ∧ xs[i]? = some x,
   fun i H v H' => ∃ T x, v = .ref T ∧ H T = none ∧ H' = upd H T (.tup [.int (i : Nat), x]) ∧ ∀ xs, SqA K H a xs b → xs[i]? = some x,
   fun i H => ∃ xs : List V, SqA K H a xs b ∧ xs.length = i⟩
theorem turn_enumA {P : Program} {w : World} {K : PySem.W.Frag} {elts : List Expr} {kk : Nat} {tpos : Pos} (b : Bool) (n : Nat) (a e it : Addr) :
    Turn P w K (.Tuple elts kk tpos) (IteA K b a n) [e, it] e (fun i h => (∃ old, IsEnum h e it ((i : Nat) : Int) old) ∧ itSt it a i h b ∧ e ≠ it ∧ e ≠ a) where
  mem := by simp
  obj := fun i h st c hc => by
    obtain ⟨⟨old, he⟩, hi, _⟩ := st
    have e' : c = e ∨ c = it := by simpa using hc
    rcases e' with z | z
    · rw [z]; exact ⟨_, he, fun v q => nomatch q⟩
    · rw [z]; exact hi.obj
  keep := fun i h h' st k => let ⟨⟨old, he⟩, hi, hne⟩ := st; ⟨⟨old, k e (by simp) _ he⟩, hi.at fun o q => k it (by simp) o q, hne⟩
  item := by
    intro X hP hw hK hc i pins s σ H E I hf st hg
    subst hP hw hK
    obtain ⟨⟨old, he⟩, hit, hne, hea⟩ := st
    obtain ⟨xs, x, hq, hx⟩ := hg
    obtain ⟨its, rv, p, hz⟩ := inv_seq I hq
    obtain ⟨u, hu, ru⟩ := rv.get hx
    have hel : e < s.heap.objs.size := Heap.lt_size he
    have hil : it < s.heap.objs.size := by obtain ⟨_, q, _⟩ := hit.obj; exact Heap.lt_size q
    have hlt : i < its.toArray.size := by
      rcases Nat.lt_or_ge i its.length with q | q
      · simpa using q
      · rw [List.getElem?_eq_none q] at hu; cases hu
    refine wpAny_pyNext_enum_itemD (drawsA (A := X.A.in1) (I.ok.hd hc) it a (seq_ne hit p) its.toArray b) he ⟨hit, p⟩ hlt hne (by simp [hne, hea]) fun y h' tk hP ho hit' hT hsz hk => ?_
    have hyu : y = u := by
      have : its[i]? = some y := by simpa using hP
      rw [hu] at this; exact (Option.some.inj this).symm
    subst hyu
    refine ⟨_, rfl, wpAny_letOwnedTupleGo_enum (s := { s with heap := h', toks := tk + 1 }) ho fun h'' he' sb => ?_⟩
    have hT2 : h''.get? s.heap.objs.size = some { cls := .type "tuple", data := .seq #[.int i tk, y] } := (sb.2 _ (Nat.ne_of_gt hel)).trans hT
    have new : ObjOk X.prog X.w (upd H s.heap.objs.size (.tup [.int (i : Nat), x])) h'' s.heap.objs.size (.tup [.int (i : Nat), x]) :=
      ⟨by show 2 ≤ sizeLine; decide, [.int i tk, y], .cons ⟨_, rfl⟩ (.cons ru .nil), ⟨_, hT2, rfl, _, rfl⟩⟩
    have I1 : Inv X pins σ (upd H s.heap.objs.size (.tup [.int (i : Nat), x])) { s with heap := h'', toks := tk + 1 } :=
      I.turnedNew (ch := [e, it]) (fun c ob hb q => (sb.2 c (fun z => hb (by simp [z]))).trans (hk c ob (fun z => hb (by simp [z])) (fun z => hb (by simp [z])) q)) hf (Nat.le_refl _) new
    refine ⟨.ref s.heap.objs.size, _, I1, rfl, ⟨_, x, rfl, I.hok.fresh (Nat.le_refl _), rfl, fun ys hy => by rw [inv_inj I hy hq]; exact hx⟩, ⟨⟨y, ?_⟩, hit'.1.at fun o q => (sb.2 it (Ne.symm hne)).trans q, hne, hea⟩, fun c hcm => ?_⟩
    · have e1 : ((i + 1 : Nat) : Int) = (i : Int) + 1 := by omega
      rw [e1]; exact he'
    · have hb' : c < s.heap.objs.size := by
        have e' : c = e ∨ c = it := by simpa using hcm
        rcases e' with z | z
        · rw [z]; exact hel
        · rw [z]; exact hil
      rw [upd_ne (Nat.ne_of_lt hb')]
      exact (hf c hcm).1
  done := by
    intro X hP hw hK hc i pins s σ H E I hf st hg
    subst hP hw hK
    obtain ⟨⟨old, he⟩, hit, hne, hea⟩ := st
    obtain ⟨xs, hq, hx⟩ := hg
    obtain ⟨its, rv, p, hz⟩ := inv_seq I hq
    obtain ⟨f0, f1, f2, f3, f4, f5⟩ := hf it (by simp)
    have hl := rv.length
    have hi : i = its.toArray.size := by simp; omega
    subst hi
    exact wpAny_pyNext_enum_endD (drawsA (A := X.A.in1) (I.ok.hd hc) it a (seq_ne hit p) its.toArray b) he ⟨hit, p⟩ fun h' eb => ⟨rfl, I.turned (t' := s.toks) (fun c o hb q => eb c o hb q) f0 f1 f3 f4 f5⟩
  self := fun A i s Q E st h => let ⟨⟨_, he⟩, _⟩ := st; wpAny_pyIter_enum he h
set_option maxHeartbeats 1000000 in
theorem meets_enum1 {v : Value} {o : Obj} {H : Heap → Prop} (B : Begins v o H) :
    Meets (Builtin.«enumerate.__new__» ⟨[.type "enumerate", v], []⟩) (fun _ R s => H s.heap ∧
      R (.ok (.ret (.ref (s.heap.push o).objs.size))) { s with heap := (s.heap.push o).push { cls := .type "enumerate", data := .fields #[.none, .bool false, .ref s.heap.objs.size, rawInt 0, .none, .none] } }) :=
  .of_wp fun prog w A R s h => by
    obtain ⟨hp, g, d, tk, os⟩ := s; obtain ⟨h1, h⟩ := h
    have hsub := sub_enumerate
    have q1 : ∀ {A' : Around} {E : Value → Shared → Prop} {Q : Value → Shared → Prop}, Q (.ref hp.objs.size) ⟨hp.push o, g, d, tk, os⟩ → wpAny (model prog w) A' (pyIter v) Q E ⟨hp, g, d, tk, os⟩ :=
      fun q => B.iter prog w _ _ ⟨hp, g, d, tk, os⟩ _ h1 q
    wp_walk using q1
    refine wpAny_stack_any fun st => wpAny_pure ?_
    split
    · rename_i c _ _ _ _ _
      cases (c == Value.type "enumerate")
      · wp_walk using q1
        exact ⟨_, rfl, h⟩
      · wp_walk using q1
        exact ⟨_, rfl, h⟩
    · wp_walk using q1
      exact ⟨_, rfl, h⟩
theorem enum_begins1 {prog : Program} {w : World} {A : Around} {E : Value → Shared → Prop} {s : Shared} {v : Value} {o : Obj} {H : Heap → Prop} {Q : Value → Shared → Prop} (B : Begins v o H) (h1 : H s.heap)
    (h : ∀ h', IsEnum h' (s.heap.objs.size + 1) s.heap.objs.size 0 .none → h'.get? s.heap.objs.size = some o → h'.objs.size = s.heap.objs.size + 2 →
      (∀ b o, s.heap.get? b = some o → h'.get? b = some o) → Q (.ref (s.heap.objs.size + 1)) { s with heap := h' }) :
    wpAny (model prog w) A (call (.type "enumerate") [v]) Q E s := by
  refine callType_new F.called_enumerate (by decide) (F.typeCall_enumerate_1 _) (F.newCall_enumerate_1 _) (fun obj => F.args_object_init_2 obj _) F.entry_enumerate_new (meets_enum1 B) ⟨h1, ?_⟩
  have hz : (s.heap.push o).objs.size = s.heap.objs.size + 1 := Heap.size_push ..
  show _ ∧ _
  rw [hz]
  have he : IsEnum ((s.heap.push o).push { cls := .type "enumerate", data := .fields #[.none, .bool false, .ref s.heap.objs.size, rawInt 0, .none, .none] }) (s.heap.objs.size + 1) s.heap.objs.size 0 .none := by
    have := Heap.get?_push_size (s.heap.push o) (o := { cls := .type "enumerate", data := .fields #[.none, .bool false, .ref s.heap.objs.size, rawInt 0, .none, .none] }) rfl
    rw [hz] at this; exact this
  exact ⟨⟨_, he, rfl⟩, h _ he (Heap.get?_push_of_some _ (Heap.get?_push_size _ B.free)) (by rw [Heap.size_push, hz]) fun b o x => Heap.get?_push_of_some _ (Heap.get?_push_of_some _ x)⟩
/-- a walk over a list or a tuple -/
def iSeqG (K : PySem.W.Frag) (J : Bool → Addr → Nat → It) (tl : TE) : TI := fun σ H R => tl σ H fun x H1 => ∃ a xs b, x = .ref a ∧ SqA K H1 a xs b ∧ (xs.length ≤ sizeLine → R (J b a xs.length) H1)
theorem seq_lt {h : Heap} {a : Addr} {its : Array Value} : ∀ {b : Bool}, seqAt h a its b → a < h.objs.size
  | false, ⟨o, ho, _⟩ => Heap.lt_size ho
  | true, ⟨o, ho, _⟩ => Heap.lt_size ho
theorem pi_enumA {X : Cx} {e : Expr} {te : TE} {p pos tpos : Pos} {elts : List Expr} {kk : Nat} (hg : Gl X "enumerate") (hm : X.mg "enumerate" = none) (he : PE X e te) (hs : starEach [e] X.env = (false, eval e X.env) :: starEach [] X.env) :
    PI X (.Tuple elts kk tpos) (.Call (.Name "enumerate" p) [e] [] pos) (iSeqG X.K (IteA X.K) te) := by
  refine ⟨fun pins s σ H R I h => ?_⟩
  refine Call_ (ld_blt I hg hm boot_enumerate (PyProof.Rows.callWith_type1 (args_cons (thn (he.run pins s σ H _ I h) fun u s1 ⟨v, H1, I1, r1, q1⟩ => args_nil ?_) hs) hs rfl))
  obtain ⟨a, xs, b, rfl, hq, q⟩ := q1
  obtain rfl : u = Value.ref a := r1
  obtain ⟨its, rv, p', hz⟩ := inv_seq I1 hq
  refine enum_begins1 (beginsA a its.toArray b) p' fun h' he hit hsz hk => wpAny_pyIter_enum he ?_
  have I2 : Inv X pins σ H1 { s1 with heap := h' } := I1.kept (t' := s1.toks) hk
  refine ⟨s1.heap.objs.size + 1, [s1.heap.objs.size + 1, s1.heap.objs.size], _, _, H1, rfl, I2, turn_enumA b xs.length a (s1.heap.objs.size + 1) s1.heap.objs.size, ⟨⟨.none, he⟩, itSt.new hit, Nat.succ_ne_self _, Nat.ne_of_gt (Nat.lt_succ_of_lt (seq_lt p'))⟩, fun c hc => ?_, q hz⟩
  have e' : c = s1.heap.objs.size + 1 ∨ c = s1.heap.objs.size := by simpa using hc
  have hle : s1.heap.objs.size ≤ c := by
    rcases e' with z | z
    · rw [z]; exact Nat.le_add_right _ _
    · rw [z]; exact Nat.le_refl _
  exact I1.fpOk hle (I1.hok.fresh hle)
/-- reversed -/
def ItvA (K : PySem.W.Frag) (b : Bool) (a : Addr) (n : Nat) : It := match b with
  | false => Itv K a n
  | true => RT.ItvT K a n
theorem pe_len {X : Cx} {e : Expr} {te : TE} (he : PE X e te) : PE X e (fun σ H Q => te σ H fun v H1 => (∀ a xs b, v = .ref a → SqA X.K H1 a xs b → xs.length ≤ sizeLine) → Q v H1) :=
  ⟨fun pins s σ H Q I h => wpAny_mono (he.run pins s σ H _ I h) (fun _ _ ⟨v, H', I', r, q⟩ => ⟨v, H', I', r, q fun a xs b _ hq => (inv_seq I' hq).choose_spec.2.2⟩) fun _ _ z => z⟩
theorem pi_revG {X : Cx} {tg e : Expr} {te : TE} {p pos : Pos} (hg : Gl X "reversed") (hm : X.mg "reversed" = none) (he : PE X e te) (hm' : ∀ σ H (P Q : VK), (∀ v H', P v H' → Q v H') → te σ H P → te σ H Q) (hs : starEach [e] X.env = (false, eval e X.env) :: starEach [] X.env) :
    PI X tg (.Call (.Name "reversed" p) [e] [] pos) (iSeqG X.K (ItvA X.K) te) :=
  (RT.pi_revA hg hm (pe_len he) hs).imp fun σ H R h => hm' _ _ _ _ (fun v H1 ⟨a, xs, b, hv, hq, q⟩ hl => ⟨a, xs, hv, by
    cases b with
    | false => exact .inl ⟨hq, q (hl a xs false hv hq)⟩
    | true => exact .inr ⟨hq, q (hl a xs true hv hq)⟩⟩) h
end DL
/-! DL22: zip over lists and tuples; the walks at the level of data. -/
namespace DL
open PySem PySem.Spec PyProof.Rows L2
def ItzA (K : PySem.W.Frag) (b1 b2 : Bool) (a1 a2 : Addr) : It :=
  ⟨fun i H => ∃ (xs ys : List V) (x y : V), SqA K H a1 xs b1 ∧ SqA K H a2 ys b2 ∧ xs[i]? = some x ∧ ys[i]? = some y,
    fun i H v H' => ∃ T x y, v = .ref T ∧ H T = none ∧ H' = upd H T (.tup [x, y]) ∧ (∀ xs, SqA K H a1 xs b1 → xs[i]? = some x) ∧ ∀ ys, SqA K H a2 ys b2 → ys[i]? = some y,
    fun i H => ∃ xs ys : List V, SqA K H a1 xs b1 ∧ SqA K H a2 ys b2 ∧ min xs.length ys.length = i⟩
theorem some_lt {α : Type} {l : List α} {i : Nat} {x : α} (h : l[i]? = some x) : i < l.length := (List.getElem?_eq_some_iff.mp h).1
theorem turn_zipA {P : Program} {w : World} {K : PySem.W.Frag} {elts : List Expr} {kk : Nat} {tpos : Pos} {b1 b2 : Bool} {a1 a2 z TI TO i1 i2 : Addr} (D : ZipSep2 z TI TO i1 i2 [i1, a1] [i2, a2]) :
    Turn P w K (.Tuple elts kk tpos) (ItzA K b1 b2 a1 a2) [z, TI, TO, i1, i2] z (fun i h => IsZip h z TI TO .none ∧ IsTupOf2 h TI (.ref i1) (.ref i2) ∧ (∃ x y, IsTupOf2 h TO x y) ∧ itSt i1 a1 i h b1 ∧ itSt i2 a2 i h b2) where
  mem := by simp
  obj := fun i h st c hc => by
    obtain ⟨hz, hTI, ⟨x, y, hTO⟩, h1, h2⟩ := st
    have e' : c = z ∨ c = TI ∨ c = TO ∨ c = i1 ∨ c = i2 := by simpa using hc
    rcases e' with q | q | q | q | q
    · rw [q]; exact ⟨_, hz, fun v q => nomatch q⟩
    · rw [q]; exact ⟨_, hTI, fun v q => nomatch q⟩
    · rw [q]; exact ⟨_, hTO, fun v q => nomatch q⟩
    · rw [q]; exact h1.obj
    · rw [q]; exact h2.obj
  keep := fun i h h' st k => by
    obtain ⟨hz, hTI, ⟨x, y, hTO⟩, h1, h2⟩ := st
    exact ⟨k z (by simp) _ hz, k TI (by simp) _ hTI, ⟨x, y, k TO (by simp) _ hTO⟩, h1.at fun o q => k i1 (by simp) o q, h2.at fun o q => k i2 (by simp) o q⟩
  item := by
    intro X hP hw hK hc i pins s σ H E I hf st hg
    subst hP hw hK
    obtain ⟨hz, hTI, ⟨x0, y0, hTO⟩, h1, h2⟩ := st
    obtain ⟨xs, ys, x, y, hqx, hqy, hx, hy⟩ := hg
    obtain ⟨its, rv, p, _⟩ := inv_seq I hqx
    obtain ⟨its2, rv2, p2, _⟩ := inv_seq I hqy
    obtain ⟨u, hu, ru⟩ := rv.get hx
    obtain ⟨u2, hu2, ru2⟩ := rv2.get hy
    have hzl : z < s.heap.objs.size := Heap.lt_size hz
    refine wpAny_pyNext_zipD2_item D (drawsA (A := X.A.in1) (I.ok.hd hc) i1 a1 (seq_ne h1 p) its.toArray b1) (drawsA (A := X.A.in1) (I.ok.hd hc) i2 a2 (seq_ne h2 p2) its2.toArray b2) hz hTI hTO ⟨h1, p⟩ ⟨h2, p2⟩ (by simpa using some_lt hu) (by simpa using some_lt hu2)
      fun v1 v2 h' tk P1 P2 z' TO' h1' h2' hT hsz hk => ?_
    obtain rfl : v1 = u := by
      have : its[i]? = some v1 := by simpa using P1
      rw [hu] at this; exact (Option.some.inj this).symm
    obtain rfl : v2 = u2 := by
      have : its2[i]? = some v2 := by simpa using P2
      rw [hu2] at this; exact (Option.some.inj this).symm
    refine ⟨_, rfl, wpAny_letOwnedTupleGo_zip (s := { s with heap := h', toks := tk }) z' fun h'' z'' sb => ?_⟩
    have hT2 : h''.get? s.heap.objs.size = some { cls := .type "tuple", data := .seq #[v1, v2] } := (sb.2 _ (Nat.ne_of_gt hzl)).trans hT
    have new : ObjOk X.prog X.w (upd H s.heap.objs.size (.tup [x, y])) h'' s.heap.objs.size (.tup [x, y]) :=
      ⟨by show 2 ≤ sizeLine; decide, [v1, v2], .cons ru (.cons ru2 .nil), ⟨_, hT2, rfl, _, rfl⟩⟩
    have I1 : Inv X pins σ (upd H s.heap.objs.size (.tup [x, y])) { s with heap := h'', toks := tk } :=
      I.turnedNew (t' := tk) (ch := [z, TI, TO, i1, i2]) (fun c o hb q => (sb.2 c (fun q' => hb (by simp [q']))).trans (hk c o (fun q' => hb (by simp [q'])) (fun q' => hb (by simp [q'])) (fun q' => hb (by simp [q'])) (fun q' => hb (by simp [q'])) q)) hf (Nat.le_refl _) new
    refine ⟨.ref s.heap.objs.size, _, I1, rfl, ⟨_, x, y, rfl, I.hok.fresh (Nat.le_refl _), rfl, fun l hl => by rw [inv_inj I hl hqx]; exact hx, fun l hl => by rw [inv_inj I hl hqy]; exact hy⟩, ⟨z'', ?_, ⟨v1, v2, ?_⟩, ?_, ?_⟩, fun c hcm => ?_⟩
    · exact (sb.2 _ D.TIz).trans (hk _ _ D.TIz D.TITO D.TIi1 D.TIi2 hTI)
    · exact (sb.2 _ D.TOz).trans TO'
    · exact h1'.1.at fun o q => (sb.2 _ D.zi1.symm).trans q
    · exact h2'.1.at fun o q => (sb.2 _ D.zi2.symm).trans q
    · have hlt : c < s.heap.objs.size := by
        have e' : c = z ∨ c = TI ∨ c = TO ∨ c = i1 ∨ c = i2 := by simpa using hcm
        rcases e' with q | q | q | q | q
        · rw [q]; exact hzl
        · rw [q]; exact Heap.lt_size hTI
        · rw [q]; exact Heap.lt_size hTO
        · rw [q]; obtain ⟨_, e1, _⟩ := h1.obj; exact Heap.lt_size e1
        · rw [q]; obtain ⟨_, e2, _⟩ := h2.obj; exact Heap.lt_size e2
      rw [upd_ne (Nat.ne_of_lt hlt)]
      exact (hf c hcm).1
  done := by
    intro X hP hw hK hc i pins s σ H E I hf st hg
    subst hP hw hK
    obtain ⟨hz, hTI, ⟨x0, y0, hTO⟩, h1, h2⟩ := st
    obtain ⟨xs, ys, hqx, hqy, hend⟩ := hg
    obtain ⟨its, rv, p, _⟩ := inv_seq I hqx
    obtain ⟨its2, rv2, p2, _⟩ := inv_seq I hqy
    have l1 := rv.length
    have l2 := rv2.length
    exact wpAny_pyNext_zipD2_end D (drawsA (A := X.A.in1) (I.ok.hd hc) i1 a1 (seq_ne h1 p) its.toArray b1) (drawsA (A := X.A.in1) (I.ok.hd hc) i2 a2 (seq_ne h2 p2) its2.toArray b2) hz hTI hTO ⟨h1, p⟩ ⟨h2, p2⟩ (by simp; omega) (by simp; omega) (by simp; omega)
      fun h' tk hk => ⟨rfl, I.turnedL (t' := tk) (ch := [z, TI, TO, i1, i2]) (fun c o hb q =>
        hk c o (fun q' => hb (by simp [q'])) (fun q' => hb (by simp [q'])) (fun q' => hb (by simp [q'])) (fun q' => hb (by simp [q'])) q) hf⟩
  self := fun A i s Q E st h => wpAny_pyIter_zip st.1 h
def iZipG (K : PySem.W.Frag) (ta : TA) : TI := fun σ H R => ta σ H fun vs H1 => ∃ a1 a2 xs ys b1 b2, vs = [.ref a1, .ref a2] ∧ SqA K H1 a1 xs b1 ∧ SqA K H1 a2 ys b2 ∧ (xs.length ≤ sizeLine → R (ItzA K b1 b2 a1 a2) H1)
theorem pi_zipG {X : Cx} {e e2 : Expr} {ta : TA} {p pos tpos : Pos} {elts : List Expr} {kk : Nat} (hg : Gl X "zip") (hm : X.mg "zip" = none) (ha : PA X [e, e2] ta)
    (hs : starEach [e, e2] X.env = (false, eval e X.env) :: starEach [e2] X.env) (hpl : (backTo pos (starEach [e2] X.env)).any (·.1) = false) :
    PI X (.Tuple elts kk tpos) (.Call (.Name "zip" p) [e, e2] [] pos) (iZipG X.K ta) := by
  refine ⟨fun pins s σ H R I h => ?_⟩
  refine Call_ (ld_blt I hg hm PyProof.Rows.boot_zip (PyProof.Rows.callWith_type1 (thn (ha.run pos pins s σ H _ I h) fun us s1 ⟨vs, H1, I1, r1, q1⟩ => ?_) hs hpl))
  obtain ⟨a1, a2, xs, ys, b1, b2, rfl, hqx, hqy, q⟩ := q1
  cases r1 with
  | cons r rr =>
    cases rr with
    | cons r' rr =>
      cases rr
      cases r
      cases r'
      obtain ⟨its, rv, p1, hz1⟩ := inv_seq I1 hqx
      obtain ⟨its2, rv2, p2, _⟩ := inv_seq I1 hqy
      have l1 := seq_lt p1
      have l2 := seq_lt p2
      refine zip_begins2 (beginsA a1 its.toArray b1) (beginsA a2 its2.toArray b2) p1 p2 fun h' hz hTI hTO g1 g2 hsz hk => wpAny_pyIter_zip hz ?_
      have I2 : Inv X pins σ H1 { s1 with heap := h' } := I1.kept (t' := s1.toks) hk
      refine ⟨s1.heap.objs.size + 4, [s1.heap.objs.size + 4, s1.heap.objs.size + 2, s1.heap.objs.size + 3, s1.heap.objs.size, s1.heap.objs.size + 1], _, _, H1, rfl, I2, turn_zipA (a1 := a1) (a2 := a2) ?_, ⟨hz, hTI, ⟨_, _, hTO⟩, itSt.new g1, itSt.new g2⟩, fun c hcm => ?_, q hz1⟩
      · have n1 : ∀ k, s1.heap.objs.size + k ≠ a1 := fun k => Nat.ne_of_gt (Nat.lt_of_lt_of_le l1 (Nat.le_add_right _ _))
        have n2 : ∀ k, s1.heap.objs.size + k ≠ a2 := fun k => Nat.ne_of_gt (Nat.lt_of_lt_of_le l2 (Nat.le_add_right _ _))
        have n3 := n1 0
        have n4 := n2 0
        rw [Nat.add_zero] at n3 n4
        constructor <;> simp [n1, n2, n3, n4]
      · have e' : c = s1.heap.objs.size + 4 ∨ c = s1.heap.objs.size + 2 ∨ c = s1.heap.objs.size + 3 ∨ c = s1.heap.objs.size ∨ c = s1.heap.objs.size + 1 := by simpa using hcm
        have hle : s1.heap.objs.size ≤ c := by
          rcases e' with z | z | z | z | z
          · rw [z]; exact Nat.le_add_right _ _
          · rw [z]; exact Nat.le_add_right _ _
          · rw [z]; exact Nat.le_add_right _ _
          · rw [z]; exact Nat.le_refl _
          · rw [z]; exact Nat.le_add_right _ _
        exact I1.fpOk hle (I1.hok.fresh hle)
end DL
/-! DL23: enumerate, zip, reversed at the level of data. -/
namespace DL
open PySem PySem.Spec PyProof.Rows L2
section
variable {X : Cx} {c : Cf} {K : PySem.W.Frag} {IO : Nat → Option Addr} {F G : Addr → Prop} {bad : Addr → Prop} {H H1 H2 H' : Hp} {σ : St} {ρ ρ1 ρ2 : Rho} {v : V} {r : Rs} {E : Xn → Prop}
  {e a b tg : Expr} {es : List Expr} {pos : Pos} {w wa wb wc : DTE} {wr : DTR} {n : Nat}
def TA (K : PySem.W.Frag) (b : Bool) (x : Addr) (xs : List D) : BH := fun bad H => ∃ vs, SqA K H x vs b ∧ DVs K H bad vs xs
def SA (K : PySem.W.Frag) (b : Bool) (x : Addr) (xs : List D) : BH := match b with
  | false => SL K x xs
  | true => ST K x xs
theorem SA.stay {b : Bool} {x : Addr} {xs : List D} : Stay (SA K b x xs) := by cases b; exact SL.stay; exact ST.stay
theorem SA.ta {b : Bool} {x : Addr} {xs : List D} (h : SA K b x xs bad H) : DL.TA K b x xs bad H := by
  cases b
  · exact SL.tl h
  · exact ST.tt h
/-- how a walk goes by what it stands on -/
structure Kd (K : PySem.W.Frag) (J : Bool → Addr → Nat → It) (g : List D → List D) : Prop where
  fd : ∀ b x xs, Fd K (J b x xs.length) (g xs) (DL.TA K b x xs)
  len : ∀ xs, (g xs).length = xs.length
theorem dv_seq {d : D} {xs : List D} (hd : DV K H bad v d) (e : seqD d = some xs) : ∃ x vs b, v = .ref x ∧ SqA K H x vs b ∧ SA K b x xs bad H ∧ vs.length = xs.length := by
  rcases seqD_cases e with rfl | rfl
  · cases hd with
    | lst h1 h2 => exact ⟨_, _, false, rfl, h1.sq, ⟨_, h1, h2⟩, h2.length⟩
  · cases hd with
    | tup h1 h2 => exact ⟨_, _, true, rfl, h1.sq, ⟨_, h1, h2⟩, h2.length⟩
theorem i_seqG {J : Bool → Addr → Nat → It} {g : List D → List D} (kd : Kd c.K J g) (hK : X.K = c.K) (h : PI X tg e (iSeqG X.K J (tD c w))) : PI X tg e (tDI c fun E ρ k => asI w E ρ fun xs ck ρ1 => k (g xs) ck ρ1) := by
  refine h.imp fun σ H R ⟨F, ρ, E, k, rp, hw, xc, kk⟩ => ⟨F, ρ, E, _, rp, hw, xc, fun v H1 ρ1 r n1 ok1 f1 q1 => ?_⟩
  rw [hK]
  dsimp only at q1
  have dat : ∀ d xs ck, DV c.K H1 (Bad F σ ρ1) v d → seqD d = some xs → k (g xs) ck ρ1 → ∃ a ys b, v = .ref a ∧ SqA c.K H1 a ys b ∧ (ys.length ≤ sizeLine → R (J b a ys.length) H1) := fun d xs ck hd e q => by
    obtain ⟨x, vs, b, rfl, h1, h2, h3⟩ := dv_seq hd e
    exact ⟨x, vs, b, rfl, h1, fun hz => by
      rw [h3] at hz ⊢
      exact kk _ _ _ _ _ _ (SA c.K b x xs) n1 ok1.rp' (kd.fd b x xs) SA.stay h2 (fun _ _ _ _ _ _ z _ => SA.ta z) (by rw [kd.len]; exact hz) q⟩
  split at q1
  · rename_i xs ed
    cases r with
    | ref i =>
      have hd := deref_ok ok1.rp' (show R1 c.K H1 (Bad F σ ρ1) σ v (.ref i) from ok1.r1') ed
      obtain ⟨x, vs, rfl, h1, h2⟩ := hd.list
      refine ⟨x, vs, false, rfl, h1, fun hz => ?_⟩
      rw [h2.length] at hz ⊢
      refine kk _ _ _ _ _ (DL.TA c.K false x xs) (fun _ _ => True) n1 ok1.rp' (kd.fd false x xs) (fun _ _ _ _ _ _ => trivial) trivial (fun F2 ρ2 σ2 H2 p2 ag _ ck => ?_) (by rw [kd.len]; exact hz) q1
      have hv : σ[i]? = some (some (V.ref x)) := ok1.r1
      have ck' : deref ρ2 (.ref i) = some (.list xs) := ck
      have hg : ∃ s, gt ρ2 i = some s := by
        simp only [deref] at ck'
        split at ck' <;> first | exact ⟨_, by assumption⟩ | cases ck'
      obtain ⟨s, hs⟩ := hg
      obtain ⟨y, ws, e1, e2, e3⟩ := (deref_ok (v := .ref x) p2 (show R1 c.K H2 (Bad F2 σ2 ρ2) σ2 (.ref x) (.ref i) from (ag i s hs).trans hv) ck').list
      cases e1
      exact ⟨ws, e2, e3⟩
    | dat d' =>
      cases ed
      exact dat _ _ _ ok1.r1' rfl q1
    | own ys =>
      cases ed
      exact dat _ _ _ ok1.r1' rfl q1
  · rename_i xs ed
    split at q1
    · rename_i d'
      cases ed
      exact dat _ _ _ ok1.r1' rfl q1
    · exact q1.elim
  · exact q1.elim
theorem f_seqG {J : Bool → Addr → Nat → It} {g : List D → List D} (kd : Kd c.K J g) (hK : X.K = c.K) (h : PI X tg e (iSeqG X.K J (tD c w))) : PI X tg e (tDF c fun E ρ k => asF w E ρ fun xs ck ρ1 => k (g xs) ck ρ1) := by
  refine h.imp fun σ H R ⟨F, ρ, E, k, rp, hw, xc, kk⟩ => ⟨F, ρ, E, _, rp, hw, xc, fun v H1 ρ1 r n1 ok1 f1 q1 => ?_⟩
  rw [hK]
  obtain ⟨d, ρ2, q2, p2, d2, n2⟩ := esc_ok ok1 q1
  dsimp only at q2
  split at q2
  · rename_i xs es
    obtain ⟨x, vs, b, rfl, h1, h2, h3⟩ := dv_seq d2 es
    exact ⟨x, vs, b, rfl, h1, fun hz => by
      rw [h3] at hz ⊢
      exact kk _ _ _ _ _ (SA c.K b x xs) (n1.trans n2) p2 ((kd.fd b x xs).imp fun _ _ z => SA.ta z) SA.stay h2 (by rw [kd.len]; exact hz) q2⟩
  · exact q2.elim
theorem kd_rev : Kd K (ItvA K) List.reverse where
  len := fun xs => List.length_reverse
  fd := fun b x xs => by
    have rev_at : ∀ {i : Nat} {y : D}, xs.reverse[i]? = some y → i < xs.length ∧ xs[xs.length - 1 - i]? = some y := fun {i y} h => by
      have hi := some_lt h
      rw [List.length_reverse] at hi
      rw [List.getElem?_reverse hi] at h
      exact ⟨hi, h⟩
    have geti : ∀ {H : Hp} {bad : Addr → Prop} {vs : List V} {i : Nat}, DVs K H bad vs xs → i < xs.length → ∃ y, vs[xs.length - 1 - i]? = some y := fun {H bad vs i} h2 hi => get_ex (by rw [h2.length]; omega)
    refine ⟨fun bad H i t hi => ?_, fun bad H t => ?_, fun bad H i v H' y t _ hy y' => ?_⟩
    · rw [List.length_reverse] at hi
      obtain ⟨vs, h1, h2⟩ := t
      obtain ⟨u, hu⟩ := geti h2 hi
      cases b with
      | false => exact ⟨hi, vs, u, h1, hu⟩
      | true => exact ⟨hi, vs, u, h1, hu⟩
    · cases b with
      | false => show _ ≤ _; simp
      | true => show _ ≤ _; simp
    · obtain ⟨vs, h1, h2⟩ := t
      obtain ⟨hi, hy⟩ := rev_at hy
      obtain ⟨w, q1, q2⟩ := h2.get hy
      have e12 : H' = H ∧ ∀ zs, SqA K H x zs b → zs[xs.length - 1 - i]? = some v := by cases b <;> exact y'
      obtain ⟨rfl, e2⟩ := e12
      have := e2 vs h1
      rw [q1] at this; cases this
      exact ⟨fun _ _ e => e, q2⟩
theorem enumD_get {xs : List D} {i : Nat} {y : D} (h : (enumD xs)[i]? = some y) : ∃ x, xs[i]? = some x ∧ y = .tuple [.int i, x] := by
  unfold enumD at h
  rw [List.getElem?_map, List.getElem?_zipIdx] at h
  cases q : xs[i]? with
  | none => rw [q] at h; cases h
  | some x => rw [q] at h; simp at h; exact ⟨x, rfl, h.symm⟩
theorem dv_pair {T : Addr} {x y : V} {dx dy : D} (hb : ∀ a, bad a → H a ≠ none) (hT : H T = none) (hx : DV K H bad x dx) (hy : DV K H bad y dy) : (∀ a o, H a = some o → upd H T (.tup [x, y]) a = some o) ∧ DV K (upd H T (.tup [x, y])) bad (.ref T) (.tuple [dx, dy]) := by
  have up : ∀ a o, H a = some o → upd H T (.tup [x, y]) a = some o := up_new hT
  have k : ∀ a o, H a = some o → ¬ bad a → upd H T (.tup [x, y]) a = some o ∧ ¬ bad a := fun a o e nb => ⟨up a o e, nb⟩
  exact ⟨up, .tup (.inl ⟨.inl upd_same, fun q => hb _ q hT⟩) (.cons (hx.mono k) (.cons (hy.mono k) .nil))⟩
theorem kd_enum : Kd K (IteA K) enumD where
  len := fun xs => by simp [enumD]
  fd := fun b x xs => by
    refine ⟨fun bad H i t hi => ?_, fun bad H t => ?_, fun bad H i v H' y t hb hy y' => ?_⟩
    · obtain ⟨vs, h1, h2⟩ := t
      have hi' : i < xs.length := by simpa [enumD] using hi
      obtain ⟨u, hu⟩ := get_ex (xs := vs) (i := i) (by rw [h2.length]; exact hi')
      exact ⟨vs, u, h1, hu⟩
    · obtain ⟨vs, h1, h2⟩ := t
      exact ⟨vs, h1, by rw [h2.length]; simp [enumD]⟩
    · obtain ⟨vs, h1, h2⟩ := t
      obtain ⟨dx, hx, rfl⟩ := enumD_get hy
      obtain ⟨w, q1, q2⟩ := h2.get hx
      obtain ⟨T, u, rfl, hT, rfl, e2⟩ := y'
      have := e2 vs h1
      rw [q1] at this; cases this
      exact dv_pair hb hT (.int _) q2
theorem zipD_get {xs ys : List D} {i : Nat} {z : D} (h : (zipD xs ys)[i]? = some z) : ∃ x y, xs[i]? = some x ∧ ys[i]? = some y ∧ z = .tuple [x, y] := by
  unfold zipD at h
  rw [List.getElem?_map] at h
  cases q : (xs.zip ys)[i]? with
  | none => rw [q] at h; cases h
  | some p =>
    rw [q] at h
    have := List.getElem?_zip_eq_some.mp q
    simp at h
    exact ⟨p.1, p.2, this.1, this.2, h.symm⟩
theorem fd_zip {b1 b2 : Bool} {x1 x2 : Addr} {xs ys : List D} : Fd K (ItzA K b1 b2 x1 x2) (zipD xs ys) (fun bad H => DL.TA K b1 x1 xs bad H ∧ DL.TA K b2 x2 ys bad H) where
  go := fun bad H i ⟨⟨vs, h1, h2⟩, ⟨ws, h3, h4⟩⟩ hi => by
    have hi' : i < xs.length ∧ i < ys.length := by simpa [zipD, Nat.lt_min] using hi
    obtain ⟨u, hu⟩ := get_ex (xs := vs) (i := i) (by rw [h2.length]; exact hi'.1)
    obtain ⟨u', hu'⟩ := get_ex (xs := ws) (i := i) (by rw [h4.length]; exact hi'.2)
    exact ⟨vs, ws, u, u', h1, h3, hu, hu'⟩
  stop := fun bad H ⟨⟨vs, h1, h2⟩, ⟨ws, h3, h4⟩⟩ => ⟨vs, ws, h1, h3, by rw [h2.length, h4.length]; simp [zipD]⟩
  yld := fun bad H i v H' y ⟨⟨vs, h1, h2⟩, ⟨ws, h3, h4⟩⟩ hb hy y' => by
    obtain ⟨dx, dy, hx, hy', rfl⟩ := zipD_get hy
    obtain ⟨w, q1, q2⟩ := h2.get hx
    obtain ⟨w', q3, q4⟩ := h4.get hy'
    obtain ⟨T, u, u', rfl, hT, rfl, e2, e3⟩ := y'
    have := e2 vs h1
    rw [q1] at this; cases this
    have := e3 ws h3
    rw [q3] at this; cases this
    exact dv_pair hb hT q2 q4
theorem zip_len (xs ys : List D) : (zipD xs ys).length ≤ xs.length := by simp [zipD]; omega
/-- a zip -/
theorem fi_zip (hK : X.K = c.K) (h : PI X tg e (iZipG X.K (tDH c 2 wr))) : PI X tg e (tDI c (zipW wr)) ∧ PI X tg e (tDF c (zipW wr)) := by
  have core : ∀ σ H R (F : Addr → Prop) (ρ : Rho) (E : Xn → Prop) (k : List D → (Rho → Prop) → Rho → Prop), Rp c.K c.IO F H σ ρ → zipW wr E ρ k → XC c F E σ ρ H →
      (∀ J H' ρ' xs (S : BH), Nx σ ρ H σ ρ' H' → Rp c.K c.IO F H' σ ρ' → Fd c.K J xs S → Stay S → S (Bad F σ ρ') H' → xs.length ≤ sizeLine → k xs (fun _ => True) ρ' → R J H') → iZipG X.K (tDH c 2 wr) σ H R := fun σ H R F ρ E k rp hw xc kk => ⟨F, ρ, E, _, rp, hw, xc, fun vs H1 ρ1 rs as hl n1 p1 h1 f1 q1 => by
    obtain ⟨ds, ρ2, q2, p2, d2, n2⟩ := all_esc p1 h1 f1 q1
    split at q2
    · rename_i d d'
      split at q2
      · rename_i xs ys e1 e2
        cases d2 with
        | cons dv1 r1 =>
          cases r1 with
          | cons dv2 r2 =>
            cases r2
            obtain ⟨x, us, b, rfl, g1, g2, g3⟩ := dv_seq dv1 e1
            obtain ⟨y, ws, b', rfl, g4, g5, g6⟩ := dv_seq dv2 e2
            rw [hK]
            refine ⟨x, y, us, ws, b, b', rfl, g1, g4, fun hz => ?_⟩
            exact kk _ _ _ _ (fun bad H => SA c.K b x xs bad H ∧ SA c.K b' y ys bad H) (n1.trans n2) p2 (fd_zip.imp fun _ _ z => ⟨SA.ta z.1, SA.ta z.2⟩) (fun _ _ _ _ z k => ⟨SA.stay _ _ _ _ z.1 k, SA.stay _ _ _ _ z.2 k⟩) ⟨g2, g5⟩ (Nat.le_trans (zip_len xs ys) (by rw [← g3]; exact hz)) q2
      · exact q2.elim
    · exact q2.elim⟩
  exact ⟨h.imp fun σ H R ⟨F, ρ, E, k, rp, hw, xc, kk⟩ => core σ H R F ρ E k rp hw xc fun J H' ρ' xs S n1 p1 fd st s hz q => kk J H' ρ' xs _ S S n1 p1 fd st s (fun _ _ _ _ _ _ z _ => z) hz q,
    h.imp fun σ H R ⟨F, ρ, E, k, rp, hw, xc, kk⟩ => core σ H R F ρ E k rp hw xc fun J H' ρ' xs S n1 p1 fd st s hz q => kk J H' ρ' xs _ S n1 p1 fd st s hz q⟩
theorem d_mono {w : DTE} : ∀ σ H (P Q : VK), (∀ v H', P v H' → Q v H') → tD c w σ H P → tD c w σ H Q := fun σ H P Q h ⟨F, ρ, E, Qd, rp, hw, xc, kk⟩ => ⟨F, ρ, E, Qd, rp, hw, xc, fun v H' ρ' r n1 ok f q => h _ _ (kk v H' ρ' r n1 ok f q)⟩
end
end DL
/-! DL24: l.index(x), tests of chains, list(range(..)). -/
namespace DL
open PySem PySem.Spec PyProof.Rows L2
section
variable {X : Cx} {c : Cf} {K : PySem.W.Frag} {IO : Nat → Option Addr} {F G : Addr → Prop} {bad : Addr → Prop} {H H1 H2 H' : Hp} {σ : St} {ρ ρ1 ρ2 : Rho} {v : V} {r : Rs} {E : Xn → Prop}
  {e a b tg : Expr} {es : List Expr} {pos : Pos} {w wa wb wc : DTE} {wr : DTR} {n : Nat}
theorem d_index (hK : X.K = c.K) (h : PE X e (tBM X.K "list" (rIndexD X.K) (tD c wa) (tCons (tD c wb) tNil))) : PE X e (tD c fun E ρ Q => wa E ρ fun r ρ1 => with1 ρ1 r (fun x0 => isListD x0 = true) ∧ wb E ρ1 fun s ρ2 => with2 ρ2 r s fun x y => match x with
    | .list xs => shp y ∧ shp (.list xs) ∧ match xs.findIdx? (fun z => PyData.eqv z y) with
      | some n => Q (.dat (.int n)) ρ2
      | none => False
    | _ => False) := by
  refine h.imp fun σ H Q ⟨F, ρ, E, Qd, rp, hw, xc, k⟩ => ⟨F, ρ, E, _, rp, hw, xc, fun v H1 ρ1 r n1 ok1 f1 ⟨q0, q1⟩ => ?_⟩
  rw [hK]
  have ty : tyV c.K "list" v H1 := by
    simp only [with1] at q0
    split at q0
    · rename_i x ex
      rw [← deref_rd] at ex
      have hx := deref_ok ok1.rp' ok1.r1' ex
      cases x <;> simp only [isListD] at q0 <;> first | exact absurd q0 (by decide) | skip
      obtain ⟨a, vs, rfl, h1, _⟩ := hx.list
      exact .inl ⟨rfl, vs, h1⟩
    · exact q0.elim
  refine ⟨ty, F, ρ1, E, _, ok1.rp', q1, xc.nx n1, fun u H2 ρ2 s n2 ok2 f2 q2 => ?_⟩
  simp only [with2] at q2
  split at q2
  · rename_i x y ex ey
    rw [← deref_rd] at ex ey
    have hx := deref_ok ok2.rp' ((ok1.r1').nx (fun xs => rd_ne xs) n2) ex
    have hy := deref_ok ok2.rp' ok2.r1' ey
    split at q2
    · rename_i xs
      obtain ⟨s1, s2, q2⟩ := q2
      split at q2
      · rename_i m em
        obtain ⟨a, vs, rfl, h1, h2⟩ := hx.list
        have fi := List.findIdx?_eq_some_iff_getElem.mp em
        obtain ⟨hm, t1, t2⟩ := fi
        refine ⟨a, u, y, xs, m, xs[m], rfl, rfl, hx.dp, hy.dp, s2, s1, List.getElem?_eq_getElem hm, t1, fun j z hj ez => ?_, k _ _ _ _ (n1.trans n2) (.ofDat ok2.rp' (.int _)) (fun _ q => q.elim) q2⟩
        have hj2 : j < xs.length := by omega
        rw [List.getElem?_eq_getElem hj2] at ez
        cases ez
        have := t2 j hj
        simpa using this
      · exact q2.elim
    · exact q2.elim
  · exact q2.elim
theorem t_chain {o o' : C2} {q : Expr} (ha : PE X a (tD c wa)) (hb : PE X b (tD c wb)) (hc : PE X q (tD c wc)) (hK : X.K = c.K) (hu : X.A.units + 65 < cLine) (hm : lastMarks [o.op, o'.op] [b, q] = false) :
    PT X (.Compare a [o.op, o'.op] [b, q] pos) (tDT c (asT fun E ρ Q => wa E ρ fun r ρ1 => wb E ρ1 fun s ρ2 => with2 ρ2 r s fun x y => cmpD o x y fun z =>
      if z = true then wc E ρ2 fun t ρ3 => with2 ρ3 s t fun y' u => cmpD o' y' u fun q => Q (.dat (.bool q)) ρ3
      else Q (.dat (.bool false)) ρ2)) := by
  refine (pt_chain (cmp_ok hu o) (cmp_ok hu o') ha hb hc hm).imp fun σ H Q ⟨F, ρ, E, Qd, rp, hw, xc, k⟩ => ?_
  refine ⟨F, ρ, E, _, rp, hw, xc, fun v H1 ρ1 r n1 ok1 f1 q1 => ?_⟩
  refine ⟨F, ρ1, E, _, ok1.rp', q1, xc.nx n1, fun u H2 ρ2 s n2 ok2 f2 q2 => ?_⟩
  simp only [with2] at q2
  split at q2
  · rename_i x y ex ey
    rw [← deref_rd] at ex ey
    have hx := deref_ok ok2.rp' ((ok1.r1').nx (fun xs => rd_ne xs) n2) ex
    have hy := deref_ok ok2.rp' ok2.r1' ey
    rw [hK]
    refine ⟨_, x, y, _, hx, hy, q2, fun z kz => ⟨z, rfl, ?_⟩⟩
    cases z with
    | false => exact ⟨false, rfl, k _ _ _ (n1.trans n2) ok2.rp' kz⟩
    | true =>
      refine ⟨F, ρ2, E, _, ok2.rp', kz, xc.nx (n1.trans n2), fun w' H3 ρ3 t n3 ok3 f3 q3 => ?_⟩
      split at q3
      · rename_i y' u' ey' eu'
        rw [← deref_rd] at ey' eu'
        have hy' := deref_ok ok3.rp' ((ok2.r1').nx (fun xs => rd_ne xs) n3) ey'
        have hu' := deref_ok ok3.rp' ok3.r1' eu'
        exact ⟨_, y', u', _, hy', hu', q3, fun z' kz' => ⟨z', rfl, k _ _ _ ((n1.trans n2).trans n3) ok3.rp' kz'⟩⟩
      · exact q3.elim
  · exact q2.elim
theorem dvs_rg (K : PySem.W.Frag) (H : Hp) (bad : Addr → Prop) (a b : Int) : DVs K H bad (rgV a b) ((List.range (b - a).toNat).map fun (i : Nat) => PyData.int (a + i)) := by
  have := DVs.of_ints (K := K) (H := H) (bad := bad) ((List.range (b - a).toNat).map fun (i : Nat) => (a + (i : Int)))
  simpa [rgV, List.map_map, Function.comp_def] using this
theorem ownNew {QQ : VK} {p : Addr} {vs : List V} {xs : List D} (p1 : Rp K IO F H σ ρ) (hp : H p = none) (dv : ∀ H bad, DVs K H bad vs xs) (kk : ∀ v H' r, Nx σ ρ H σ ρ H' → RsOk K IO F H' σ ρ v r → (∀ a, fr v r a → H a = none) → r = .own xs → QQ v H') : QQ (.ref p) (upd H p (.lst vs)) := by
  obtain ⟨n, ok⟩ := ResB.ok p1 (ResB.lst (bad := Bad F σ ρ) hp (dv H _))
  exact kk _ _ _ n ok (fun a q => by cases q; exact hp) rfl
theorem d_listR1 (hc : X.calm = true) (hg : Gl X "list") (hm : X.mg "list" = none) (hg' : Gl X "range") (hm' : X.mg "range" = none) {p p2 pos2 : Pos} (ha : PE X a (tD c w)) (hs : starEach [a] X.env = (false, eval a X.env) :: starEach [] X.env)
    (hs2 : starEach [Expr.Call (.Name "range" p2) [a] [] pos2] X.env = (false, eval (Expr.Call (.Name "range" p2) [a] [] pos2) X.env) :: starEach [] X.env) :
    PE X (.Call (.Name "list" p) [.Call (.Name "range" p2) [a] [] pos2] [] pos) (tD c fun E ρ Q => w E ρ fun r ρ1 => withs ρ1 [r] fun ds => rngD ds fun xs => xs.length ≤ 16777216 ∧ Q (.own xs) ρ1) :=
  (pe_listRg hc hg hm (prg_1 hg' hm' ha hs) hs2).imp fun σ H Q ⟨F, ρ, E, Qd, rp, hw, xc, k⟩ => ⟨F, ρ, E, _, rp, hw, xc, fun v H1 ρ1 r n1 ok1 f1 q1 => by
    simp only [withs, derefs] at q1
    split at q1
    · rename_i ds eds
      split at eds
      · rename_i d ds' e1 e2
        cases e2; cases eds
        rw [← deref_rd] at e1
        have dr := deref_ok ok1.rp' ok1.r1' e1
        unfold rngD at q1
        split at q1
        · rename_i m em
          cases em
          obtain rfl := dr.int
          refine ⟨_, rfl, ⟨by omega, by omega, by omega, by omega, by have := q1.2.2.1; simpa using this⟩, fun p hp => ?_⟩
          refine ownNew (QQ := Q) ok1.rp' hp (dvs_rg c.K · · 0 m) fun v' H' r' n2 ok2 f2 e => k v' H' ρ1 r' (n1.trans n2) ok2 (fun a q => n1.fresh (f2 a q)) ?_
          subst e
          simpa using q1.2.2.2
        · rename_i em; cases em
        · exact q1.elim
      · cases eds
    · exact q1.elim⟩
end
end DL
/-! LZ1: zip's next while its last tuple is out, over any two iterators. -/
namespace DL
open PySem PySem.W PySem.Spec PyProof.Rows L2
section
variable {prog : Program} {w : World} {A : Around} {E : Value → Shared → Prop} {s : Shared} {z TI TO T i1 i2 : Addr} {fp1 fp2 : List Addr} {n1 n2 i : Nat} {P1 P2 : Nat → Value → Prop} {St1 St2 : Nat → Heap → Prop} {f : Bool} {oT : Obj}
theorem zh_item {Q : Value → Shared → Prop} (S : ZipSep2 z TI TO i1 i2 fp1 fp2) (D1 : Draws prog w A i1 fp1 n1 P1 St1) (D2 : Draws prog w A i2 fp2 n2 P2 St2)
    (hz : IsZipHeld s.heap z TI TO T f) (hT : s.heap.get? T = some oT) (hTI : IsTupOf2 s.heap TI (.ref i1) (.ref i2)) (st1 : St1 i s.heap) (st2 : St2 i s.heap) (hlt1 : i < n1) (hlt2 : i < n2)
    (hQ : ∀ x1 x2 h' tk, P1 i x1 → P2 i x2 → IsZipHeld h' z TI TO T true → St1 (i + 1) h' → St2 (i + 1) h' → IsTupOf2 h' s.heap.objs.size x1 x2 → h'.objs.size = s.heap.objs.size + 1 →
      (∀ c o, c ≠ z → c ≠ i1 → c ≠ i2 → s.heap.get? c = some o → h'.get? c = some o) → Q (.ref s.heap.objs.size) { s with heap := h', toks := tk }) :
    wpAny (model prog w) A (Builtin.«zip.__next__» ⟨[.ref z], []⟩) (fun fin s' => ∃ v, fin = .done (.ret v) ∧ Q v s') E s := by
  obtain ⟨hp, g, d, tk0, os⟩ := s
  show wpAny _ _ (field (.ref z) 2 >>= _) _ _ _
  refine wpAny_bind (wpAny_field hz rfl (x := .bool false) rfl ?_)
  show wpAny _ _ (field (.ref z) 3 >>= _) _ _ _
  refine wpAny_bind (wpAny_field hz rfl (x := .ref TI) rfl ?_)
  refine wpAny_bind (wpAny_seqItems hTI rfl ?_)
  show wpAny _ _ (Builtin.SmallTypes.ownedTupleIsFree (.ref z) >>= _) _ _ _
  refine wpAny_bind (wpAny_tupleHeld_zip hz hT fun g0 hz0 hs0 => ?_)
  replace hs0 : Heap.SameBut z hp g0 := hs0
  simp only [Bool.false_eq_true, if_false]
  refine wpAny_bind ?_
  rw [← Array.forIn_toList]
  simp only [List.forIn_cons, List.forIn_nil]
  refine wpAny_bind (wpAny_bind (wpAny_holding ?_))
  show wpAny _ _ (Builtin.SmallTypes.nextOf (.ref i1) >>= _) _ _ ⟨g0, g, d, tk0, os⟩
  refine wpAny_bind (D1.item i _ _ _ hlt1 (D1.over st1 hs0 S.zf1) fun x1 p1 tk1 hx1 sn1 hp1 => wpAny_pure ?_)
  replace hp1 : Heap.SameBut i1 g0 p1 := hp1
  refine wpAny_pure ?_
  refine wpAny_bind (wpAny_bind (wpAny_holding ?_))
  show wpAny _ _ (Builtin.SmallTypes.nextOf (.ref i2) >>= _) _ _ ⟨p1, g, d, tk1, os⟩
  refine wpAny_bind (D2.item i _ _ _ hlt2 (D2.over (D2.over st2 hs0 S.zf2) hp1 S.sep1_2) fun x2 p2 tk2 hx2 sn2 hp2 => wpAny_pure ?_)
  replace hp2 : Heap.SameBut i2 p1 p2 := hp2
  refine wpAny_pure (wpAny_pure ?_)
  show wpAny _ _ (newTuple [x1, x2] >>= _) _ _ _
  refine wpAny_bind (wpAny_newTuple ?_)
  have hsz : p2.objs.size = hp.objs.size := by rw [hp2.1, hp1.1, hs0.1]
  have hzz : IsZipHeld p2 z TI TO T true := hp2.extBut _ _ S.zi2 (hp1.extBut _ _ S.zi1 hz0)
  have hkk : ∀ c o, c ≠ z → c ≠ i1 → c ≠ i2 → hp.get? c = some o → p2.get? c = some o := fun c o cz c1 c2 e => hp2.extBut _ _ c2 (hp1.extBut _ _ c1 (hs0.extBut _ _ cz e))
  have hj1 : St1 (i + 1) p2 := D1.over sn1 hp2 S.sep2_1
  refine wpAny_pure ⟨_, rfl, ?_⟩
  show Q (.ref p2.objs.size) ⟨p2.push { cls := .type "tuple", data := .seq #[x1, x2] }, g, d, tk2, os⟩
  rw [hsz]
  refine hQ x1 x2 _ tk2 hx1 hx2 (Heap.get?_push_of_some _ hzz) (D1.frame _ _ _ hj1 fun b hb o e => Heap.get?_push_of_some _ e) (D2.frame _ _ _ sn2 fun b hb o e => Heap.get?_push_of_some _ e) ?_ ?_ fun c o cz c1 c2 e => Heap.get?_push_of_some _ (hkk c o cz c1 c2 e)
  · rw [← hsz]; exact Heap.get?_push_size _ rfl
  · show (p2.push _).objs.size = hp.objs.size + 1
    rw [Heap.size_push, hsz]
theorem zh_done {Q : Fin → Shared → Prop} (S : ZipSep2 z TI TO i1 i2 fp1 fp2) (D1 : Draws prog w A i1 fp1 n1 P1 St1) (D2 : Draws prog w A i2 fp2 n2 P2 St2)
    (hz : IsZipHeld s.heap z TI TO T f) (hT : s.heap.get? T = some oT) (hTI : IsTupOf2 s.heap TI (.ref i1) (.ref i2)) (st1 : St1 i s.heap) (st2 : St2 i s.heap) (hle1 : i ≤ n1) (hle2 : i ≤ n2) (hend : i = n1 ∨ i = n2)
    (hE : ∀ h' tk e, (∀ c o, c ≠ z → c ≠ i1 → c ≠ i2 → s.heap.get? c = some o → h'.get? c = some o) → (∃ o, h'.get? e = some o ∧ o.cls = .type "StopIteration") → E (.ref e) { s with heap := h', toks := tk }) :
    wpAny (model prog w) A (Builtin.«zip.__next__» ⟨[.ref z], []⟩) Q E s := by
  obtain ⟨hp, g, d, tk0, os⟩ := s
  show wpAny _ _ (field (.ref z) 2 >>= _) _ _ _
  refine wpAny_bind (wpAny_field hz rfl (x := .bool false) rfl ?_)
  show wpAny _ _ (field (.ref z) 3 >>= _) _ _ _
  refine wpAny_bind (wpAny_field hz rfl (x := .ref TI) rfl ?_)
  refine wpAny_bind (wpAny_seqItems hTI rfl ?_)
  show wpAny _ _ (Builtin.SmallTypes.ownedTupleIsFree (.ref z) >>= _) _ _ _
  refine wpAny_bind (wpAny_tupleHeld_zip hz hT fun g0 hz0 hs0 => ?_)
  replace hs0 : Heap.SameBut z hp g0 := hs0
  simp only [Bool.false_eq_true, if_false]
  refine wpAny_bind ?_
  rw [← Array.forIn_toList]
  simp only [List.forIn_cons, List.forIn_nil]
  refine wpAny_bind (wpAny_bind (wpAny_holding ?_))
  show wpAny _ _ (Builtin.SmallTypes.nextOf (.ref i1) >>= _) _ _ ⟨g0, g, d, tk0, os⟩
  by_cases hlt1 : i < n1
  · refine wpAny_bind (D1.item i _ _ _ hlt1 (D1.over st1 hs0 S.zf1) fun x1 p1 tk1 hx1 sn1 hp1 => wpAny_pure ?_)
    replace hp1 : Heap.SameBut i1 g0 p1 := hp1
    refine wpAny_pure ?_
    have hi2 : i = n2 := by omega
    refine wpAny_bind (wpAny_bind (wpAny_holding ?_))
    show wpAny _ _ (Builtin.SmallTypes.nextOf (.ref i2) >>= _) _ _ ⟨p1, g, d, tk1, os⟩
    refine wpAny_bind (D2.done ⟨p1, g, d, tk1, os⟩ _ _ (by rw [← hi2]; exact (D2.over (D2.over st2 hs0 S.zf2) hp1 S.sep1_2)) fun q e hq he => ?_)
    replace hq : Heap.ExtBut i2 p1 q := hq
    exact hE q tk1 e (fun c o cz c1 c2 x => hq _ _ c2 (hp1.extBut _ _ c1 (hs0.extBut _ _ cz x))) he
  · have hi1 : i = n1 := by omega
    refine wpAny_bind (D1.done ⟨g0, g, d, tk0, os⟩ _ _ (by rw [← hi1]; exact (D1.over st1 hs0 S.zf1)) fun q e hq he => ?_)
    replace hq : Heap.ExtBut i1 g0 q := hq
    exact hE q tk0 e (fun c o cz c1 c2 x => hq _ _ c1 (hs0.extBut _ _ cz x)) he
theorem zp_item {Q : Option Value → Shared → Prop} (S : ZipSep2 z TI TO i1 i2 fp1 fp2) (D1 : Draws prog w A.in1 i1 fp1 n1 P1 St1) (D2 : Draws prog w A.in1 i2 fp2 n2 P2 St2)
    (hz : IsZipHeld s.heap z TI TO T f) (hT : s.heap.get? T = some oT) (hTI : IsTupOf2 s.heap TI (.ref i1) (.ref i2)) (st1 : St1 i s.heap) (st2 : St2 i s.heap) (hlt1 : i < n1) (hlt2 : i < n2)
    (hQ : ∀ x1 x2 h' tk, P1 i x1 → P2 i x2 → IsZipHeld h' z TI TO T true → St1 (i + 1) h' → St2 (i + 1) h' → IsTupOf2 h' s.heap.objs.size x1 x2 → h'.objs.size = s.heap.objs.size + 1 →
      (∀ c o, c ≠ z → c ≠ i1 → c ≠ i2 → s.heap.get? c = some o → h'.get? c = some o) → Q (some (.ref s.heap.objs.size)) { s with heap := h', toks := tk }) :
    wpAny (model prog w) A (pyNext (.ref z)) Q E s := by
  have hTy : s.TypeIs (.ref z) "zip" := ⟨_, hz, rfl⟩
  unfold pyNext
  exact wpAny_bind (wpAny_attempt (wpAny_callSpecial?_slot (name := Str.ofString "__next__") hTy F.slot_zip_next
    (wpAny_call_entry F.slot_zip_next hTy F.entry_zip_next
      (zh_item S D1 D2 hz hT hTI st1 st2 hlt1 hlt2 fun x1 x2 h' tk y1 y2 b1 d1 d2 b5 b6 b7 => wpAny_pure (hQ x1 x2 h' tk y1 y2 b1 d1 d2 b5 b6 b7)) (F.args_zip_next_1 _))))
theorem zp_done {Q : Option Value → Shared → Prop} (S : ZipSep2 z TI TO i1 i2 fp1 fp2) (D1 : Draws prog w A.in1 i1 fp1 n1 P1 St1) (D2 : Draws prog w A.in1 i2 fp2 n2 P2 St2)
    (hz : IsZipHeld s.heap z TI TO T f) (hT : s.heap.get? T = some oT) (hTI : IsTupOf2 s.heap TI (.ref i1) (.ref i2)) (st1 : St1 i s.heap) (st2 : St2 i s.heap) (hle1 : i ≤ n1) (hle2 : i ≤ n2) (hend : i = n1 ∨ i = n2)
    (hQ : ∀ h' tk, (∀ c o, c ≠ z → c ≠ i1 → c ≠ i2 → s.heap.get? c = some o → h'.get? c = some o) → Q none { s with heap := h', toks := tk }) : wpAny (model prog w) A (pyNext (.ref z)) Q E s := by
  have hTy : s.TypeIs (.ref z) "zip" := ⟨_, hz, rfl⟩
  unfold pyNext
  refine wpAny_bind (wpAny_attempt (wpAny_callSpecial?_slot (name := Str.ofString "__next__") hTy F.slot_zip_next
    (wpAny_call_entry F.slot_zip_next hTy F.entry_zip_next (zh_done S D1 D2 hz hT hTI st1 st2 hle1 hle2 hend fun h' tk e hk he => ?_) (F.args_zip_next_1 _))))
  obtain ⟨o, ho, hc⟩ := he
  refine wpAny_bind (wpAny_isInstance (T := "StopIteration") (b := true) ⟨o, ho, hc⟩ isSubtype_stop ?_)
  exact wpAny_pure (hQ _ _ hk)
end
end DL
/-! LZ2: a list drawn from a zip. -/
namespace DL
open PySem PySem.W PySem.Spec PyProof.Rows L2
/-- the pairs drawn till now -/
structure ZG (P1 P2 : Nat → Value → Prop) (lo : Addr) (h : Heap) (as : List Addr) : Prop where
  rise : as.Pairwise (· < ·)
  above : ∀ a ∈ as, lo < a
  pairs : ∀ (j : Nat) (a : Addr), as[j]? = some a → ∃ v1 v2, P1 j v1 ∧ P2 j v2 ∧ IsTupOf2 h a v1 v2
theorem ZG.there {P1 P2 : Nat → Value → Prop} {lo : Addr} {h : Heap} {as : List Addr} (g : ZG P1 P2 lo h as) {a : Addr} (ha : a ∈ as) : a < h.objs.size := by
  obtain ⟨j, hj⟩ := List.mem_iff_getElem?.mp ha
  obtain ⟨_, _, _, _, e⟩ := g.pairs j a hj
  exact Heap.lt_size e
/-- the zip's own state -/
def ZSt (z TI TO : Addr) (as : List Addr) (h : Heap) : Prop := (IsZip h z TI TO .none ∧ ∃ x y, IsTupOf2 h TO x y) ∨ ∃ T f, T ∈ as ∧ IsZipHeld h z TI TO T f
section
variable {prog : Program} {w : World} {A : Around} {E : Value → Shared → Prop} {s : Shared} {z TI TO i1 i2 : Addr} {fp1 fp2 : List Addr} {n1 n2 n i : Nat} {P1 P2 : Nat → Value → Prop} {St1 St2 : Nat → Heap → Prop} {as : List Addr}
theorem zl_item {lo : Addr} {Q : Option Value → Shared → Prop} (S : ZipSep2 z TI TO i1 i2 fp1 fp2) (D1 : Draws prog w A.in1 i1 fp1 n1 P1 St1) (D2 : Draws prog w A.in1 i2 fp2 n2 P2 St2)
    (hz : ZSt z TI TO as s.heap) (hG : ZG P1 P2 lo s.heap as) (hTI : IsTupOf2 s.heap TI (.ref i1) (.ref i2)) (st1 : St1 i s.heap) (st2 : St2 i s.heap) (hlt1 : i < n1) (hlt2 : i < n2)
    (hQ : ∀ x1 x2 h' tk f, P1 i x1 → P2 i x2 → IsZipHeld h' z TI TO s.heap.objs.size f → St1 (i + 1) h' → St2 (i + 1) h' → IsTupOf2 h' s.heap.objs.size x1 x2 → h'.objs.size = s.heap.objs.size + 1 →
      (∀ c o, c ≠ z → c ≠ TO → c ≠ i1 → c ≠ i2 → s.heap.get? c = some o → h'.get? c = some o) → Q (some (.ref s.heap.objs.size)) { s with heap := h', toks := tk })
    (hQ2 : ∀ T x1 x2 h' tk f, T ∈ as → P1 i x1 → P2 i x2 → IsZipHeld h' z TI TO T f → St1 (i + 1) h' → St2 (i + 1) h' → IsTupOf2 h' s.heap.objs.size x1 x2 → h'.objs.size = s.heap.objs.size + 1 →
      (∀ c o, c ≠ z → c ≠ TO → c ≠ i1 → c ≠ i2 → s.heap.get? c = some o → h'.get? c = some o) → Q (some (.ref s.heap.objs.size)) { s with heap := h', toks := tk }) :
    wpAny (model prog w) A (pyNext (.ref z)) Q E s := by
  rcases hz with ⟨hz, x, y, hTO⟩ | ⟨T, f, hT, hz⟩
  · exact wpAny_pyNext_zipD2_item S D1 D2 hz hTI hTO st1 st2 hlt1 hlt2 fun x1 x2 h' tk y1 y2 b1 b2 d1 d2 b5 b6 b7 => hQ x1 x2 h' tk false y1 y2 b1 d1 d2 b5 b6 b7
  · obtain ⟨j, hj⟩ := List.mem_iff_getElem?.mp hT
    obtain ⟨_, _, _, _, e⟩ := hG.pairs j T hj
    exact zp_item S D1 D2 hz e hTI st1 st2 hlt1 hlt2 fun x1 x2 h' tk y1 y2 b1 d1 d2 b5 b6 b7 => hQ2 T x1 x2 h' tk true hT y1 y2 b1 d1 d2 b5 b6 fun c o c1 _ c2 c3 => b7 c o c1 c2 c3
theorem zl_done {lo : Addr} {Q : Option Value → Shared → Prop} (S : ZipSep2 z TI TO i1 i2 fp1 fp2) (D1 : Draws prog w A.in1 i1 fp1 n1 P1 St1) (D2 : Draws prog w A.in1 i2 fp2 n2 P2 St2)
    (hz : ZSt z TI TO as s.heap) (hG : ZG P1 P2 lo s.heap as) (hTI : IsTupOf2 s.heap TI (.ref i1) (.ref i2)) (st1 : St1 i s.heap) (st2 : St2 i s.heap) (hle1 : i ≤ n1) (hle2 : i ≤ n2) (hend : i = n1 ∨ i = n2)
    (hQ : ∀ h' tk, (∀ c o, c ≠ z → c ≠ TO → c ≠ i1 → c ≠ i2 → s.heap.get? c = some o → h'.get? c = some o) → Q none { s with heap := h', toks := tk }) : wpAny (model prog w) A (pyNext (.ref z)) Q E s := by
  rcases hz with ⟨hz, x, y, hTO⟩ | ⟨T, f, hT, hz⟩
  · exact wpAny_pyNext_zipD2_end S D1 D2 hz hTI hTO st1 st2 hle1 hle2 hend hQ
  · obtain ⟨j, hj⟩ := List.mem_iff_getElem?.mp hT
    obtain ⟨_, _, _, _, e⟩ := hG.pairs j T hj
    exact zp_done S D1 D2 hz e hTI st1 st2 hle1 hle2 hend fun h' tk k => hQ h' tk fun c o c1 _ c2 c3 => k c o c1 c2 c3
end
section
variable {prog : Program} {w : World} {A : Around} {R : Result → Shared → Prop} {z TI TO i1 i2 : Addr} {fp1 fp2 : List Addr} {n1 n2 n : Nat} {P1 P2 : Nat → Value → Prop} {St1 St2 : Nat → Heap → Prop}
theorem zl_loop {L : Addr} (S : ZipSep2 z TI TO i1 i2 fp1 fp2) (D1 : Draws prog w A.in1.in1 i1 fp1 n1 P1 St1) (D2 : Draws prog w A.in1.in1 i2 fp2 n2 P2 St2) (hn1 : n ≤ n1) (hn2 : n ≤ n2) (hne : n = n1 ∨ n = n2) (hn : n ≤ sizeLine) (res : Value)
    (hL : ∀ b, b = z ∨ b = TI ∨ b = TO ∨ b ∈ fp1 ∨ b ∈ fp2 → b < L) {s₁ : Shared}
    (hR : ∀ h' tk acc c as, (∀ b o, b ≠ L → b ≠ z → b ≠ TO → b ≠ i1 → b ≠ i2 → s₁.heap.get? b = some o → h'.get? b = some o) → h'.get? L = some { cls := .type "list", dict := none, data := .seq acc c, slots := #[] } → as.length = n → ZG P1 P2 L h' as →
      acc.toList = as.map Value.ref → R (.ok (.ret res)) { s₁ with heap := h', toks := tk }) :
    ∀ (k i : Nat) (h : Heap) (tk c : Nat) (acc : Array Value) (as : List Addr), n - i = k → i ≤ n → ZSt z TI TO as h → ZG P1 P2 L h as → IsTupOf2 h TI (.ref i1) (.ref i2) → St1 i h → St2 i h →
      (∀ b o, b ≠ L → b ≠ z → b ≠ TO → b ≠ i1 → b ≠ i2 → s₁.heap.get? b = some o → h.get? b = some o) →
      h.get? L = some { cls := .type "list", dict := none, data := .seq acc c, slots := #[] } → acc.toList = as.map Value.ref → as.length = i →
      codeAny (model prog w) A (.builtin "list.extend.loop" ⟨[.ref L, .ref z, res], []⟩) R { s₁ with heap := h, toks := tk } := by
  have lz := hL z (by simp)
  have lTI := hL TI (by simp)
  have lTO := hL TO (by simp)
  have l1 := hL i1 (by simp [S.mem1])
  have l2 := hL i2 (by simp [S.mem2])
  intro k
  induction k with
  | zero =>
    intro i h tk c acc as hk hi hst hG hTI st1 st2 hkeep hS hacc hal
    have hin : i = n := by omega
    subst hin
    refine codeAny_builtin PySem.F.entry_extend_loop ?_
    rw [Around.under_plainId PySem.F.plain_extend_loop _]
    show wpAny _ A.in1 (pyNext (.ref z) >>= _) _ _ _
    refine wpAny_bind (zl_done (s := { s₁ with heap := h, toks := tk }) (A := A.in1) S D1 D2 hst hG hTI st1 st2 hn1 hn2 hne fun h' tk' he => ?_)
    dsimp only at he ⊢
    refine wpAny_pure (hR h' tk' acc c as (fun b o h1 h2 h3 h4 h5 e => he b o h2 h3 h4 h5 (hkeep b o h1 h2 h3 h4 h5 e)) (he L _ (Nat.ne_of_gt lz) (Nat.ne_of_gt lTO) (Nat.ne_of_gt l1) (Nat.ne_of_gt l2) hS) hal ⟨hG.rise, hG.above, fun j a hj => ?_⟩ hacc)
    obtain ⟨v1, v2, q1, q2, e3⟩ := hG.pairs j a hj
    have ab := hG.above a (List.mem_of_getElem? hj)
    exact ⟨v1, v2, q1, q2, he a _ (Nat.ne_of_gt (Nat.lt_trans lz ab)) (Nat.ne_of_gt (Nat.lt_trans lTO ab)) (Nat.ne_of_gt (Nat.lt_trans l1 ab)) (Nat.ne_of_gt (Nat.lt_trans l2 ab)) e3⟩
  | succ k ih =>
    intro i h tk c acc as hk hi hst hG hTI st1 st2 hkeep hS hacc hal
    have hlt : i < n := by omega
    have hsz : acc.size = i := by rw [← Array.length_toList, hacc, List.length_map, hal]
    have hLl : L < h.objs.size := Heap.lt_size hS
    have step : ∀ (T : Addr) (as' : List Addr) x1 x2 h' tk' f, T ∈ as ++ [h.objs.size] → P1 i x1 → P2 i x2 → IsZipHeld h' z TI TO T f → St1 (i + 1) h' → St2 (i + 1) h' → IsTupOf2 h' h.objs.size x1 x2 → h'.objs.size = h.objs.size + 1 →
        (∀ c o, c ≠ z → c ≠ TO → c ≠ i1 → c ≠ i2 → h.get? c = some o → h'.get? c = some o) →
        wpAny (model prog w) A.in1 (updateSeq L (·.push (Value.ref h.objs.size)) >>= fun _ => again (.builtin "list.extend.loop" ⟨[.ref L, .ref z, res], []⟩)) (fun fin s' => match fin with | .done f => R (.ok f) s' | .again c' => c'.quiet = true ∧ codeAny (model prog w) A c' R s') (fun e s' => R (.error e) s') { s₁ with heap := h', toks := tk' } := by
      intro T as' x1 x2 h' tk' f hT q1 q2 hz' d1 d2 ht hz hkp
      have hS' := hkp L _ (Nat.ne_of_gt lz) (Nat.ne_of_gt lTO) (Nat.ne_of_gt l1) (Nat.ne_of_gt l2) hS
      have up : ∀ b o, b ≠ L → h'.get? b = some o → (h'.update L (Obj.mapSeq (·.push (Value.ref h.objs.size)))).get? b = some o := fun b o hb e => (Heap.get?_update_other _ _ (Ne.symm hb)).trans e
      refine wpAny_bind ?_
      refine wpAny_updateSeq hS' rfl (wpAny_pure ⟨plainId_quiet PySem.F.plain_extend_loop _, ih (i + 1) _ tk' _ (acc.push (Value.ref h.objs.size)) (as ++ [h.objs.size]) (by omega) hlt (.inr ⟨T, f, hT, up _ _ (Nat.ne_of_lt lz) hz'⟩) ⟨?_, ?_, ?_⟩
        (up _ _ (Nat.ne_of_lt lTI) (hkp TI _ S.TIz S.TITO S.TIi1 S.TIi2 hTI)) (D1.frame _ _ _ d1 fun b hb o e => up b o (Nat.ne_of_lt (hL b (by simp [hb]))) e) (D2.frame _ _ _ d2 fun b hb o e => up b o (Nat.ne_of_lt (hL b (by simp [hb]))) e)
        (fun b o h1 h2 h3 h4 h5 e => up b o h1 (hkp b o h2 h3 h4 h5 (hkeep b o h1 h2 h3 h4 h5 e))) (Heap.get?_update_self _ hS' rfl) (by rw [Array.toList_push, hacc, List.map_append]; rfl) (by rw [List.length_append, hal]; rfl)⟩) (by rw [hsz]; omega) (by show (acc.push (Value.ref h.objs.size)).size ≤ sizeLine + 1; rw [Array.size_push, hsz]; omega)
      · refine List.pairwise_append.mpr ⟨hG.rise, List.pairwise_singleton _ _, fun a ha b hb => ?_⟩
        rw [List.mem_singleton.mp hb]
        exact hG.there ha
      · intro a ha
        rcases List.mem_append.mp ha with ha | ha
        · exact hG.above a ha
        · rw [List.mem_singleton.mp ha]; exact hLl
      · intro j b hj
        rcases Nat.lt_trichotomy j as.length with e1 | e1 | e1
        · rw [List.getElem?_append_left e1] at hj
          obtain ⟨v1, v2, p1, p2, e3⟩ := hG.pairs j b hj
          have hb := hG.above b (List.mem_of_getElem? hj)
          exact ⟨v1, v2, p1, p2, up b _ (Nat.ne_of_gt hb) (hkp b _ (Nat.ne_of_gt (Nat.lt_trans lz hb)) (Nat.ne_of_gt (Nat.lt_trans lTO hb)) (Nat.ne_of_gt (Nat.lt_trans l1 hb)) (Nat.ne_of_gt (Nat.lt_trans l2 hb)) e3)⟩
        · subst e1
          have hb : h.objs.size = b := by simpa using hj
          subst hb
          subst hal
          exact ⟨x1, x2, q1, q2, up _ _ (Nat.ne_of_gt hLl) ht⟩
        · have hnone : (as ++ [h.objs.size])[j]? = none := List.getElem?_eq_none (by rw [List.length_append, List.length_singleton]; omega)
          rw [hnone] at hj; cases hj
    refine codeAny_builtin PySem.F.entry_extend_loop ?_
    rw [Around.under_plainId PySem.F.plain_extend_loop _]
    show wpAny _ A.in1 (pyNext (.ref z) >>= _) _ _ _
    refine wpAny_bind (zl_item (s := { s₁ with heap := h, toks := tk }) (A := A.in1) S D1 D2 hst hG hTI st1 st2 (by omega) (by omega) (fun x1 x2 h' tk' f a1 a2 a3 a4 a5 a6 a7 a8 => ?_) fun T x1 x2 h' tk' f hT a1 a2 a3 a4 a5 a6 a7 a8 => ?_)
    · exact step h.objs.size as x1 x2 h' tk' f (by simp) a1 a2 a3 a4 a5 a6 a7 a8
    · exact step T as x1 x2 h' tk' f (List.mem_append_left _ hT) a1 a2 a3 a4 a5 a6 a7 a8
end
end DL
/-! LZ3: list(z), z a zip. -/
namespace DL
open PySem PySem.W PySem.Spec PyProof.Rows L2
theorem nolen_zip : typeLookup (.type "zip") "__len__" = pure none := by rw [typeLookup_type, builtinLookup_eq_fast]; kernel_rfl
theorem nohint_zip : typeLookup (.type "zip") "__length_hint__" = pure none := by rw [typeLookup_type, builtinLookup_eq_fast]; kernel_rfl
section
variable {prog : Program} {w : World} {A : Around} {E : Value → Shared → Prop} {s : Shared} {z TI TO i1 i2 : Addr} {fp1 fp2 : List Addr} {n1 n2 n : Nat} {P1 P2 : Nat → Value → Prop} {St1 St2 : Nat → Heap → Prop}
theorem zl_call {x y : Value} {Q : Value → Shared → Prop} (S : ZipSep2 z TI TO i1 i2 fp1 fp2) (D1 : Draws prog w A.in1.in1.in1 i1 fp1 n1 P1 St1) (D2 : Draws prog w A.in1.in1.in1 i2 fp2 n2 P2 St2) (hn1 : n ≤ n1) (hn2 : n ≤ n2) (hne : n = n1 ∨ n = n2) (hn : n ≤ sizeLine)
    (hL : ∀ b, b = z ∨ b = TI ∨ b = TO ∨ b ∈ fp1 ∨ b ∈ fp2 → b < s.heap.objs.size) (hz : IsZip s.heap z TI TO .none) (hTI : IsTupOf2 s.heap TI (.ref i1) (.ref i2)) (hTO : IsTupOf2 s.heap TO x y) (st1 : St1 0 s.heap) (st2 : St2 0 s.heap)
    (hQ : ∀ h' tk acc c as, (∀ b o, b ≠ z → b ≠ TO → b ≠ i1 → b ≠ i2 → s.heap.get? b = some o → h'.get? b = some o) → h'.get? s.heap.objs.size = some { cls := .type "list", dict := none, data := .seq acc c, slots := #[] } → as.length = n → ZG P1 P2 s.heap.objs.size h' as →
      acc.toList = as.map Value.ref → Q (.ref s.heap.objs.size) { s with heap := h', toks := tk }) :
    wpAny (model prog w) A (call (.type "list") [.ref z]) Q E s := by
  have lz := hL z (by simp)
  have lTI := hL TI (by simp)
  have lTO := hL TO (by simp)
  refine callType_codes (Q₁ := fun obj s₁ => obj = .ref s.heap.objs.size ∧ s₁ = { s with heap := s.heap.push { cls := .type "list", data := .seq #[] } }) PySem.F.called_list (PySem.F.typeCall_list_1 _) PySem.F.entry_list_init
    (code_list_new _ ⟨rfl, rfl⟩) fun obj s₁ h₁ => ?_
  obtain ⟨rfl, rfl⟩ := h₁
  have hS : (s.heap.push { cls := .type "list", data := .seq #[] }).get? s.heap.objs.size = some { cls := .type "list", data := .seq #[] } := Heap.get?_push_size _ rfl
  refine ⟨⟨_, hS, rfl⟩, PySem.F.args_list_init_2 _ _, ?_⟩
  show wpAny _ A.in1.in1 (do let old ← Builtin.List.listItems (.ref s.heap.objs.size); Builtin.List.listUpdate (.ref s.heap.objs.size) (fun _ => #[]); letGo old.toList.reverse; Builtin.List.listExtendWith (.ref s.heap.objs.size) (.ref z) .none) _ _ _
  refine wpAny_bind ?_
  unfold Builtin.List.listItems
  refine wpAny_bind (wpAny_seqItems hS rfl (wpAny_pure ?_))
  show wpAny _ A.in1.in1 (updateSeq s.heap.objs.size (fun _ => #[]) >>= fun _ => letGo (#[] : Array Value).toList.reverse >>= fun _ => Builtin.List.listExtendWith (.ref s.heap.objs.size) (.ref z) .none) _ _ _
  refine wpAny_bind (wpAny_updateSeq hS rfl ?_)
  have hS2 := Heap.get?_update_self (Obj.mapSeq (fun _ => (#[] : Array Value))) hS rfl
  refine wpAny_bind (wpAny_letGo ?_)
  unfold Builtin.List.listExtendWith
  have up : ∀ (h : Heap) (f : Obj → Obj), (∀ b o, s.heap.get? b = some o → h.get? b = some o) → ∀ b o, s.heap.get? b = some o → (h.update s.heap.objs.size f).get? b = some o := fun h f q b o e =>
    (Heap.get?_update_other _ _ (Ne.symm (Nat.ne_of_lt (Heap.lt_size e)))).trans (q b o e)
  have k1 : ∀ b o, s.heap.get? b = some o → (s.heap.push { cls := .type "list", data := .seq #[] }).get? b = some o := fun b o e => Heap.get?_push_of_some _ e
  have k2 := up _ (Obj.mapSeq (fun _ => (#[] : Array Value))) k1
  have zty : ∀ {h : Heap} {tk : Nat}, (∀ b o, s.heap.get? b = some o → h.get? b = some o) → ({ s with heap := h, toks := tk } : Shared).TypeIs (.ref z) "zip" := fun {h} {tk} q => ⟨_, q _ _ hz, rfl⟩
  refine wpAny_bind (wpAny_typeOf (zty k2) ?_)
  have h1 : Builtin.List.listSameRef (.ref s.heap.objs.size) (.ref z) = false := by simp [Builtin.List.listSameRef, Nat.ne_of_gt lz]
  have h2 : (Value.type "zip" == Value.type "list") = false := by decide
  have h3 : (Value.type "zip" == Value.type "tuple") = false := by decide
  simp only [h1, h2, h3, Bool.or_false, Bool.false_eq_true, if_false]
  refine wpAny_bind (wpAny_pyIter_zip (s := { s with heap := _ }) (k2 _ _ hz) ?_)
  refine wpAny_bind (wpAny_holding ?_)
  unfold Builtin.List.listLengthHint
  refine wpAny_bind (wpAny_specialOf (zty k2) nolen_zip ?_)
  show wpAny _ A.in1.in1 (specialOf (Value.ref z) (Str.ofString "__length_hint__") >>= _) _ _ _
  refine wpAny_bind (wpAny_specialOf (zty k2) nohint_zip ?_)
  refine wpAny_pure ?_
  show wpAny _ A.in1.in1 (rule "list.extend.makes-room" >>= fun _ => Builtin.List.listTouch (.ref s.heap.objs.size) >>= fun _ =>
    again (.builtin "list.extend.loop" ⟨[.ref s.heap.objs.size, .ref z, .none], []⟩)) _ _ _
  refine wpAny_bind (wpAny_rule ?_)
  refine wpAny_bind ?_
  show wpAny _ A.in1.in1 (updateSeq s.heap.objs.size (·.push .none) >>= fun _ => updateSeq s.heap.objs.size (·.pop)) _ _ _
  refine wpAny_bind (wpAny_updateSeq hS2 rfl ?_)
  have hS3 := Heap.get?_update_self (Obj.mapSeq (·.push Value.none)) hS2 rfl
  refine wpAny_updateSeq (hz := by seq_fits) hS3 rfl ?_
  have hS4 := Heap.get?_update_self (Obj.mapSeq (·.pop)) hS3 rfl
  have k4 := up _ (Obj.mapSeq (·.pop)) (up _ (Obj.mapSeq (·.push Value.none)) k2)
  refine wpAny_pure ⟨plainId_quiet PySem.F.plain_extend_loop _, ?_⟩
  refine zl_loop (A := A.in1) (s₁ := s) S D1 D2 hn1 hn2 hne hn .none hL (fun h' tk acc c as q1 q2 q3 q4 q5 => ⟨rfl, hQ h' tk acc c as (fun b o a1 a2 a3 a4 e => q1 b o (Nat.ne_of_lt (Heap.lt_size e)) a1 a2 a3 a4 e) q2 q3 q4 q5⟩)
    n 0 _ _ _ #[] [] (Nat.sub_zero _) (Nat.zero_le _) (.inl ⟨k4 _ _ hz, x, y, k4 _ _ hTO⟩) ⟨List.Pairwise.nil, (fun _ ha => nomatch ha), (fun j a hj => by simp at hj)⟩ (k4 _ _ hTI) (D1.frame _ _ _ st1 fun b _ o e => k4 b o e) (D2.frame _ _ _ st2 fun b _ o e => k4 b o e) (fun b o _ _ _ _ _ e => k4 b o e) hS4 rfl rfl
end
end DL
/-! LZ4: list(zip(e, e2)). -/
namespace DL
open PySem PySem.W PySem.Spec PyProof.Rows L2
/-- the pairs tracked at their addresses -/
def putP : Hp → List Addr → List (V × V) → Hp
  | H, a :: as, p :: ps => putP (upd H a (.tup [p.1, p.2])) as ps
  | H, _, _ => H
theorem putP_off {b : Addr} : ∀ (as : List Addr) (ps : List (V × V)) (H : Hp), b ∉ as → putP H as ps b = H b
  | [], _, _, _ => rfl
  | _ :: _, [], _, _ => rfl
  | a :: as, p :: ps, H, h => by
    show putP (upd H a (.tup [p.1, p.2])) as ps b = H b
    rw [putP_off as ps _ (fun z => h (List.mem_cons_of_mem _ z)), upd_ne (fun z => h (by rw [z]; exact List.mem_cons_self))]
theorem putP_at : ∀ (as : List Addr) (ps : List (V × V)) (H : Hp), as.length = ps.length → as.Nodup → Paired (fun (t : Addr) (p : V × V) => putP H as ps t = some (.tup [p.1, p.2])) as ps
  | [], [], _, _, _ => .nil
  | [], _ :: _, _, h, _ => by cases h
  | _ :: _, [], _, h, _ => by cases h
  | a :: as, p :: ps, H, h, hn => by
    have hn' := List.nodup_cons.mp hn
    have ih := putP_at as ps (upd H a (.tup [p.1, p.2])) (Nat.succ.inj h) hn'.2
    refine .cons ?_ ih
    show putP (upd H a (.tup [p.1, p.2])) as ps a = some (.tup [p.1, p.2])
    rw [putP_off as ps _ hn'.1, upd_same]
section
variable {X : Cx} {pins : List (Addr × Obj)} {σ : L2.St} {H : Hp} {s : Shared}
theorem pairs_laid {h' : Heap} {tk : Nat} {ps : List (V × V)} {acc : Array Value} {c L : Nat} {as : List Addr} {P1 P2 : Nat → Value → Prop} (I : Inv X pins σ H s) (hz : ps.length ≤ sizeLine) (hL : s.heap.objs.size ≤ L)
    (hk : ∀ b o, s.heap.get? b = some o → h'.get? b = some o) (hS : h'.get? L = some { cls := .type "list", dict := none, data := .seq acc c, slots := #[] }) (hl : as.length = ps.length) (hG : ZG P1 P2 L h' as)
    (hP : ∀ j p v1 v2, ps[j]? = some p → P1 j v1 → P2 j v2 → RelV p.1 v1 ∧ RelV p.2 v2) (hacc : acc.toList = as.map Value.ref) :
    ∃ H' : Hp, (∀ b o, H b = some o → H' b = some o) ∧ H L = none ∧ (∀ t ∈ as, H t = none) ∧ L ∉ as ∧ H' L = some (.lst (as.map V.ref)) ∧ Paired (fun (t : Addr) (q : V × V) => H' t = some (.tup [q.1, q.2])) as ps ∧ Inv X pins σ H' { s with heap := h', toks := tk } := by
  have hSn : L ∉ as := fun z => Nat.lt_irrefl _ (hG.above _ z)
  have nd : as.Nodup := List.Pairwise.imp (fun {a b} (h : a < b) => Nat.ne_of_lt h) hG.rise
  have new : ∀ t ∈ as, H t = none := fun t ht => I.hok.fresh (Nat.le_trans hL (Nat.le_of_lt (hG.above t ht)))
  have newS : H L = none := I.hok.fresh hL
  have atP := putP_at as ps (upd H L (.lst (as.map V.ref))) hl nd
  have off : ∀ b, b ∉ as → b ≠ L → putP (upd H L (.lst (as.map V.ref))) as ps b = H b := fun b h1 h2 => by rw [putP_off as ps _ h1, upd_ne h2]
  have low : ∀ b o, s.heap.get? b = some o → b ∉ as ∧ b ≠ L := fun b o e => ⟨fun z => absurd (Heap.lt_size e) (Nat.not_lt.mpr (Nat.le_trans hL (Nat.le_of_lt (hG.above b z)))), Nat.ne_of_lt (Nat.lt_of_lt_of_le (Heap.lt_size e) hL)⟩
  have kp : ∀ b u, H b = some u → (putP (upd H L (.lst (as.map V.ref))) as ps) b = some u := fun b u e => by
    rw [off b (fun z => by rw [new b z] at e; cases e) (fun z => by rw [z, newS] at e; cases e)]
    exact e
  have eS : putP (upd H L (.lst (as.map V.ref))) as ps L = some (.lst (as.map V.ref)) := by rw [putP_off as ps _ hSn, upd_same]
  refine ⟨putP (upd H L (.lst (as.map V.ref))) as ps, kp, newS, new, hSn, eS, atP, ?_⟩
  refine I.call' (ch := []) rfl ⟨fun b o q _ _ _ => hk b o q, fun b o q _ _ _ => ⟨o.slots, hk b o q⟩, fun b o q n _ => ?_, fun b o q _ => ⟨o, hk b o q⟩, fun b xs q => kp b _ q, fun b o u q => kp b _ q, fun b ps q => ⟨#[], by rw [kp b _ q]; simp⟩⟩ (fun b u q => ?_) I.bare fun b z => by simp at z
  · obtain ⟨z1, z2⟩ := low b o q
    rw [off b z1 z2]
    exact n
  · by_cases hb : b ∈ as
    · obtain ⟨j, pk, e1, e2, e3⟩ := LiI.paired_ix atP hb
      rw [e3] at q
      cases q
      obtain ⟨v1, v2, f1, f2, f3⟩ := hG.pairs j b e1
      obtain ⟨r1, r2⟩ := hP j pk v1 v2 e2 f1 f2
      exact ⟨by show 2 ≤ sizeLine; decide, [v1, v2], .cons r1 (.cons r2 .nil), ⟨_, f3, rfl, _, rfl⟩⟩
    · by_cases hb2 : b = L
      · rw [hb2] at q ⊢
        rw [eS] at q
        cases q
        refine ⟨by rw [List.length_map]; omega, acc.toList, c, by rw [hacc]; exact LiI.vals_refs as, ?_⟩
        rw [Array.toArray_toList]
        exact hS
      · rw [off b hb hb2] at q
        exact (I.hok b u q).stay (fun d v _ y => hk d v y) (fun d y => kp d _ y) fun d xs y => kp d _ y
/-- what list(zip(..)) gives -/
def tListZip (K : PySem.W.Frag) (ta : L2.TA) : TE := fun σ H Q => ta σ H fun vs H1 => ∃ a1 a2 xs ys b1 b2, vs = [.ref a1, .ref a2] ∧ SqA K H1 a1 xs b1 ∧ SqA K H1 a2 ys b2 ∧
  ∀ (H' : Hp) (p : Addr) (ts : List Addr), (∀ b o, H1 b = some o → H' b = some o) → H1 p = none → (∀ t ∈ ts, H1 t = none) → p ∉ ts → (xs.zip ys).length ≤ sizeLine → H' p = some (.lst (ts.map V.ref)) → Paired (fun (t : Addr) (q : V × V) => H' t = some (.tup [q.1, q.2])) ts (xs.zip ys) → Q (.ref p) H'
theorem pe_listZip {e e2 : Expr} {ta : L2.TA} {p p2 pos pos2 : Pos} (hc : X.calm = true) (hg : Gl X "list") (hm : X.mg "list" = none) (hg' : Gl X "zip") (hm' : X.mg "zip" = none) (ha : PA X [e, e2] ta)
    (hs : starEach [e, e2] X.env = (false, eval e X.env) :: starEach [e2] X.env) (hpl : (backTo pos2 (starEach [e2] X.env)).any (·.1) = false)
    (na : starEach [.Call (.Name "zip" p2) [e, e2] [] pos2] X.env = (false, eval (.Call (.Name "zip" p2) [e, e2] [] pos2) X.env) :: starEach [] X.env) :
    PE X (.Call (.Name "list" p) [.Call (.Name "zip" p2) [e, e2] [] pos2] [] pos) (tListZip X.K ta) := by
  refine ⟨fun pins s σ H Q I h => ?_⟩
  refine Call_ (ld_blt I hg hm boot_list (PyProof.Rows.callWith_type1 (args_cons ?_ na) na))
  refine Call_ (ld_blt I hg' hm' PyProof.Rows.boot_zip (PyProof.Rows.callWith_type1 (thn (ha.run pos2 pins s σ H _ I h) fun us s1 ⟨vs, H1, I1, r1, q1⟩ => ?_) hs hpl))
  obtain ⟨a1, a2, xs, ys, b1, b2, rfl, hqx, hqy, q⟩ := q1
  cases r1 with
  | cons r rr =>
    cases rr with
    | cons r' rr =>
      cases rr
      cases r
      cases r'
      obtain ⟨its, rv, p1, hz1⟩ := inv_seq I1 hqx
      obtain ⟨its2, rv2, p2', hz2⟩ := inv_seq I1 hqy
      have l1 := seq_lt p1
      have l2 := seq_lt p2'
      have e1 := rv.length
      have e2' := rv2.length
      refine zip_begins2 (beginsA a1 its.toArray b1) (beginsA a2 its2.toArray b2) p1 p2' fun h' hz hTI hTO g1 g2 hsz hk => args_nil ?_
      have n1 : ∀ k, s1.heap.objs.size + k ≠ a1 := fun k => Nat.ne_of_gt (Nat.lt_of_lt_of_le l1 (Nat.le_add_right _ _))
      have n2 : ∀ k, s1.heap.objs.size + k ≠ a2 := fun k => Nat.ne_of_gt (Nat.lt_of_lt_of_le l2 (Nat.le_add_right _ _))
      have n3 := n1 0
      have n4 := n2 0
      rw [Nat.add_zero] at n3 n4
      have sz : (({ s1 with heap := h' } : Shared)).heap.objs.size = s1.heap.objs.size + 5 := hsz
      have hp1 : seqAt h' a1 its.toArray b1 := by
        cases b1 <;> (obtain ⟨o, ho, r⟩ := p1; exact ⟨o, hk _ _ ho, r⟩)
      have hp2 : seqAt h' a2 its2.toArray b2 := by
        cases b2 <;> (obtain ⟨o, ho, r⟩ := p2'; exact ⟨o, hk _ _ ho, r⟩)
      have lzip : (xs.zip ys).length = min its.length its2.length := by rw [List.length_zip, e1, e2']
      have D1 := drawsA (prog := X.prog) (w := X.w) (A := X.A.in1.in1.in1) (I1.ok.hd hc) s1.heap.objs.size a1 (Ne.symm n3) its.toArray b1
      have D2 := drawsA (prog := X.prog) (w := X.w) (A := X.A.in1.in1.in1) (I1.ok.hd hc) (s1.heap.objs.size + 1) a2 (Ne.symm (n2 1)) its2.toArray b2
      refine zl_call (s := { s1 with heap := h' }) (n := (xs.zip ys).length) (fp1 := [s1.heap.objs.size, a1]) (fp2 := [s1.heap.objs.size + 1, a2]) ?_ D1 D2
        (by rw [lzip]; simp; omega) (by rw [lzip]; simp; omega) (by rw [lzip]; simp; omega) (by rw [lzip]; omega) (fun b hb => ?_) hz hTI hTO ⟨itSt.new g1, hp1⟩ ⟨itSt.new g2, hp2⟩ fun h2 tk acc c as k1 k2 k3 k4 k5 => ?_
      · constructor <;> simp [n1, n2, n3, n4]
      · rw [sz]
        have e' : b = s1.heap.objs.size + 4 ∨ b = s1.heap.objs.size + 2 ∨ b = s1.heap.objs.size + 3 ∨ (b = s1.heap.objs.size ∨ b = a1) ∨ (b = s1.heap.objs.size + 1 ∨ b = a2) := by simpa using hb
        have t : ∀ k, k < 5 → s1.heap.objs.size + k < s1.heap.objs.size + 5 := fun k hk => Nat.add_lt_add_left hk _
        rcases e' with q' | q' | q' | (q' | q') | (q' | q')
        · rw [q']; exact t 4 (by decide)
        · rw [q']; exact t 2 (by decide)
        · rw [q']; exact t 3 (by decide)
        · rw [q']; exact t 0 (by decide)
        · rw [q']; exact Nat.lt_trans l1 (t 0 (by decide))
        · rw [q']; exact t 1 (by decide)
        · rw [q']; exact Nat.lt_trans l2 (t 0 (by decide))
      · have kk : ∀ b o, s1.heap.get? b = some o → h2.get? b = some o := fun b o e => by
          have hb : b < s1.heap.objs.size := Heap.lt_size e
          have lt : ∀ k, b ≠ s1.heap.objs.size + k := fun k => Nat.ne_of_lt (Nat.lt_of_lt_of_le hb (Nat.le_add_right _ _))
          exact k1 b o (lt 4) (lt 3) (lt 0) (lt 1) (hk b o e)
        obtain ⟨H2, m1, m2, m3, m4, m5, m6, J⟩ := pairs_laid (tk := tk) (ps := xs.zip ys) I1 (by rw [lzip]; omega) (by rw [sz]; exact Nat.le_add_right _ _) kk k2 k3 k4 (fun j pr v1 v2 hj w1 w2 => by
          have := List.getElem?_zip_eq_some.mp hj
          obtain ⟨u1, hu1, ru1⟩ := rv.get this.1
          obtain ⟨u2, hu2, ru2⟩ := rv2.get this.2
          have w1' : its[j]? = some v1 := by simpa using w1
          have w2' : its2[j]? = some v2 := by simpa using w2
          rw [hu1] at w1'; rw [hu2] at w2'
          cases w1'; cases w2'
          exact ⟨ru1, ru2⟩) k5
        exact ⟨.ref _, H2, J, rfl, q H2 _ as m1 m2 m3 m4 (by rw [lzip]; omega) m5 m6⟩
end
end DL
/-! LZ5: list(zip(e, e2)) at the level of data. -/
namespace DL
open PySem PySem.W PySem.Spec PyProof.Rows L2
section
variable {X : Cx} {c : Cf} {K : PySem.W.Frag} {F : Addr → Prop} {bad bad' : Addr → Prop} {H H' : Hp} {σ : L2.St} {ρ : Rho} {e : Expr} {wr : DTR}
theorem dvs_pairs (k : ∀ a o, H a = some o → ¬ bad a → H' a = some o ∧ ¬ bad' a) : ∀ {ts : List Addr} {us ws : List V} {xs ys : List D}, DVs K H bad us xs → DVs K H bad ws ys →
    Paired (fun (t : Addr) (q : V × V) => H' t = some (.tup [q.1, q.2])) ts (us.zip ws) → (∀ t ∈ ts, ¬ bad' t) → DVs K H' bad' (ts.map V.ref) (zipD xs ys)
  | ts, [], ws, xs, ys, d1, d2, p, n => by
    cases d1
    cases p
    exact .nil
  | ts, u :: us, [], xs, ys, d1, d2, p, n => by
    cases d2
    cases p
    cases d1
    exact .nil
  | ts, u :: us, v :: ws, xs, ys, d1, d2, p, n => by
    cases p with
    | cons h t =>
      cases d1 with
      | cons a1 r1 =>
        cases d2 with
        | cons a2 r2 =>
          exact .cons (.tup (.inl ⟨.inl h, n _ List.mem_cons_self⟩) (.cons (a1.mono k) (.cons (a2.mono k) .nil))) (dvs_pairs k r1 r2 t fun t m => n t (List.mem_cons_of_mem _ m))
theorem d_listZ (hK : X.K = c.K) (h : PE X e (tListZip X.K (tDH c 2 wr))) : PE X e (tD c fun E ρ Q => zipW wr E ρ fun xs _ ρ1 => Q (.own xs) ρ1) := by
  refine h.imp fun σ H Q ⟨F, ρ, E, Qd, rp, hw, xc, k⟩ => ⟨F, ρ, E, _, rp, hw, xc, fun vs H1 ρ1 rs as hl n1 p1 h1 f1 q1 => ?_⟩
  obtain ⟨ds, ρ2, q2, p2, d2, n2⟩ := all_esc p1 h1 f1 q1
  split at q2
  · rename_i d d'
    split at q2
    · rename_i xs ys e1 e2
      cases d2 with
      | cons dv1 r1 =>
        cases r1 with
        | cons dv2 r2 =>
          cases r2
          obtain ⟨x, us0, b, rfl, _, g2, g3⟩ := dv_seq dv1 e1
          obtain ⟨y, ws0, b', rfl, _, g5, g6⟩ := dv_seq dv2 e2
          obtain ⟨us, g1, w1⟩ := SA.ta g2
          obtain ⟨ws, g4, w2⟩ := SA.ta g5
          rw [hK]
          refine ⟨x, y, us, ws, b, b', rfl, g1, g4, fun H' p ts m1 m2 m3 m4 hz m5 m6 => ?_⟩
          have rb : ResB c.K (Bad F σ ρ2) H1 (.ref p) H' (.own (zipD xs ys)) := ⟨m1, p, ts.map .ref, rfl, m2, m5, dvs_pairs (fun a o e nb => ⟨m1 a o e, fun q => q.elim nb fun z => by subst z; rw [m2] at e; cases e⟩) w1 w2 m6
            fun t ht q => q.elim (fun z => p2.bad_dom z (m3 t ht)) fun z => m4 (z ▸ ht)⟩
          obtain ⟨n3, ok⟩ := ResB.ok p2 rb
          exact k _ _ _ _ ((n1.trans n2).trans n3) ok (fun a q => (n1.trans n2).fresh (nf_of rb a q)) q2
    · exact q2.elim
  · exact q2.elim
end
end DL
/-! DL25: the context in which a text is checked against the syntax. -/
namespace DL
open PySem PySem.Spec PyProof.Rows L2
/-- what is known of a text: a def's names, defs with numbers of parameters, their names, constants, built-ins that the text does not name -/
structure Tb where
  N : List Str
  fns : List (String × Nat)
  pars : List (String × List Str)
  con : List (String × D)
  blt : List String
abbrev Sc := List (Str × NameKind)
/-- a def that may be called -/
structure Callee (X : Cx) (c : Cf) (f : String) (n : Nat) (sp : DSp) (pars : Option (List Str)) : Prop where
  ex : ∃ (CX : CXT) (k : Nat) (fa : Addr) (fd : FuncData) (ps : List Str), FnG X.prog X.w X.K X.mg X.base CX k fa fd ps (hs X.K c.xt n sp) ∧ Room k X.A ∧ X.mg (Str.ofString f) = some (.ref fa) ∧ PySem.W.keepIn X.K (.ref fa) = true ∧
    Binds X.K fd ps [] ∧ ps.length = n ∧ Passes CX X c.Eh ∧ (∀ qs, pars = some qs → ps = qs ∧ KwAll X.K fd qs) ∧ (∀ o H s e s', CX o H s (fun _ _ _ => False) e s' → False)
structure Gd (T : Tb) (Γ : Gam) (c : Cf) (sc : Sc) (fn : Str → Bool) (X : Cx) : Prop where
  nm : X.env.scope.names = sc
  kd : X.env.scope.kind = .function
  N : X.N = T.N
  nd : T.N.Nodup
  K : X.K = c.K
  calm : X.calm = true
  fn : ∀ x, fn x = true → X.fn x = true
  gd : X.A.guards = some []
  un : X.A.units + 100 < cLine
  own : PassesOwn (model X.prog X.w) X.A X.env X.xe
  call : ∀ f n, T.fns.lookup f = some n → Callee X c f n (Γ f) (T.pars.lookup f)
  con : ∀ x d, T.con.lookup x = some d → ∃ u v, X.mg (Str.ofString x) = some u ∧ RelV v u ∧ ∀ H bad, DV c.K H bad v d
  blt : ∀ x, T.blt.contains x = true → X.mg (Str.ofString x) = none
  gcd : T.blt.contains "math.gcd" = true → X.mg (Str.ofString "gcd") = some (.builtin "math.gcd")
/-- the names of a comprehension within a def -/
def relN (names sc : Sc) : Sc := names.map fun (n, k) => if (k == .free && sc.lookup n == some .cell) then (n, .cell) else (n, k)
section
variable {T : Tb} {Γ : Gam} {c : Cf} {sc : Sc} {fn : Str → Bool} {X : Cx}
theorem Gd.blk (g : Gd T Γ c sc fn X) (s : Shared) (H : Hp) (scope : Scope) (hk : scope.kind = .function) (C : Addr) (cl : List (Str × Addr)) (fp : List Addr) :
    Gd T Γ c.quiet (relN scope.names sc) (fun x => scope.names.lookup x == some .cell) (X.blk s H scope (compEnvC scope cl C X.env) fp) where
  nm := by
    show (relabel scope X.env).names = _
    have e : (ScopeKind.function == ScopeKind.function) = true := by decide
    simp only [relabel, relN, g.kd, Env.kindOf, g.nm, e, Bool.and_true]
  kd := hk
  N := g.N
  nd := g.nd
  K := g.K
  calm := g.calm
  fn := fun x h => h
  gd := g.gd
  un := g.un
  own := PassesOwn.never
  call := fun f n h => by
    obtain ⟨CX, k, fa, fd, ps, h1, h2, h3, h4, h5, h6, h7, h8, h9⟩ := (g.call f n h).ex
    exact ⟨CX, k, fa, fd, ps, h1, h2, h3, h4, h5, h6, fun _ _ _ _ _ _ _ q => h9 _ _ _ _ _ q, h8, h9⟩
  con := g.con
  blt := g.blt
  gcd := g.gcd
theorem Gd.gl (g : Gd T Γ c sc fn X) {x : Str} (h : sc.lookup x = some .globalImplicit) : Gl X x := by
  show X.env.scope.names.lookup x = _
  rw [g.nm]; exact h
theorem Gd.vis (g : Gd T Γ c sc fn X) {x : Str} (h : (decide (sc.lookup x = some .local) || decide (sc.lookup x = some .cell) || decide (sc.lookup x = some .free)) = true) : Vis X.env.scope x := by
  simp only [Bool.or_eq_true, decide_eq_true_eq] at h
  unfold Vis
  rw [g.nm]
  rcases h with (h | h) | h
  · exact .inl h
  · exact .inr (.inl h)
  · exact .inr (.inr h)
end
/-! ### side conditions -/
def noStar : Expr → Bool
  | .Starred .. => false
  | _ => true
theorem starEach_cons {e : Expr} {es : List Expr} {env : Env} (h : noStar e = true) : starEach (e :: es) env = (false, eval e env) :: starEach es env := by
  cases e <;> first | rfl | cases h
def notSlice : Expr → Bool
  | .Slice .. => false
  | _ => true
theorem plainIx {b : Expr} (h : notSlice b = true) : PlainIx b := by
  intro o i
  cases b <;> first | rfl | cases h
def notSet : Expr → Bool
  | .Set .. => false
  | _ => true
theorem folded {e : Expr} {env : Env} (h : notSet e = true) (x : Value) : foldedSetIterable e env x = pure x := by
  cases e <;> first | rfl | cases h
theorem behind {op : CmpOp} {e : Expr} (h : notSet e = true) : behindInMarks op e = false := by
  cases e <;> first | rfl | cases h
theorem marks {o o' : CmpOp} {a b : Expr} (h : notSet b = true) : lastMarks [o, o'] [a, b] = false := by
  show behindInMarks o' b = false
  exact behind h
/-- a test that goes by the value alone -/
def byVal : Expr → Bool
  | .UnaryOp .Not _ _ => false
  | .BoolOp .. => false
  | .IfExp .. => false
  | .Compare .. => false
  | _ => true
theorem isTrue_val {e : Expr} {env : Env} (h : byVal e = true) (whole : Sem Value) : isTrue e env whole = (do let v ← whole; standAt e.pos; holding [v] (truthy v)) := by
  cases e with
  | UnaryOp op x p => cases op <;> first | rfl | cases h
  | BoolOp => cases h
  | IfExp => cases h
  | Compare => cases h
  | _ => rfl
def notComp : Expr → Bool
  | .ListComp .. => false
  | .SetComp .. => false
  | .DictComp .. => false
  | _ => true
theorem noSwap {e : Expr} {t : Option Expr} {l : Nat} {env : Env} (h : notComp e = true) : swapsWith e t l env = pure false := by
  cases e <;> first | rfl | cases h
def notTup : Expr → Bool
  | .Tuple .. => false
  | _ => true
theorem noSwapS {t e : Expr} {env : Env} (h : notTup e = true) : swappedStores [t] e env = pure none := by
  cases t <;> cases e <;> first | rfl | cases h
def notSeq : Expr → Bool
  | .Tuple .. => false
  | .List .. => false
  | _ => true
theorem noSwapS' {t e : Expr} {env : Env} (h : notSeq t = true) : swappedStores [t] e env = pure none := by
  cases t <;> cases e <;> first | rfl | cases h
theorem assign_one {t : Expr} {env : Env} (h : noStar t = true) : (assignEach [t] env).map (·.2) = [assign t env] := by
  cases t <;> first | rfl | cases h
theorem assign_cons {t : Expr} {ts : List Expr} {env : Env} (h : noStar t = true) : assignEach (t :: ts) env = (false, assign t env) :: assignEach ts env := by
  cases t <;> first | rfl | cases h
/-- [..] on the line of a local name -/
def swB (sc : Sc) (t : Str) (tp : Pos) (scope : Scope) (p : Pos) : Bool :=
  decide (sc.lookup t = some .local) && tp.line == p.line && !(scope.names.any fun (n, k) => n == t && (k == .local || k == .cell))
section
variable {T : Tb} {Γ : Gam} {c : Cf} {sc : Sc} {fn : Str → Bool} {X : Cx}
theorem Gd.bk (g : Gd T Γ c sc fn X) : X.env.blockKind = .function := by
  unfold Env.blockKind
  rw [g.kd]
  rfl
theorem swaps_lc (g : Gd T Γ c sc fn X) {elt : Expr} {gs : List Comprehension} {scope : Scope} {p tp : Pos} {t : Str} {l : Nat} : swapsWith (.ListComp elt gs scope p) (some (.Name t tp)) l X.env = pure (swB sc t tp scope p) := by
  show (pure (X.env.blockKind == .function && X.env.kindOf t == some .local && tp.line == p.line && !(scope.names.any fun (n, k) => n == t && (k == .local || k == .cell))) : Sem Bool) = _
  have e : (ScopeKind.function == ScopeKind.function) = true := by decide
  have e2 : (sc.lookup t == some NameKind.local) = decide (sc.lookup t = some .local) := by
    by_cases q : sc.lookup t = some .local
    · rw [q]; decide
    · rw [decide_eq_false q]
      exact beq_eq_false_iff_ne.mpr q
  rw [g.bk, Env.kindOf, g.nm]
  unfold swB
  rw [e, e2, Bool.true_and]
theorem swaps_other (g : Gd T Γ c sc fn X) {e t : Expr} {l : Nat} (h : (match t with | .Name .. => false | _ => true) = true) : swapsWith e (some t) l X.env = pure false := by
  cases e <;> first
    | rfl
    | (cases t <;> first | rfl | cases h)
/-- what several stores at once are -/
def swS (sc : Sc) (ts vs : List Expr) : Option (Option (List Str)) :=
  if !(ts.length == 2 || ts.length == 3) || vs.length != ts.length then some none
  else if vs.any (fun | .Starred .. => true | _ => false) then some none
  else
    let line := (ts.head?.map (·.pos.line)).getD 0
    let names := ts.filterMap fun
      | .Name id pos => if sc.lookup id == some .local && pos.line == line then some id else none
      | _ => none
    if names.length != ts.length || names.eraseDups.length != names.length then some none
    else if vs.all (foldedForSure 8) then some none
    else if vs.all (constantsAlone 8) then none
    else some (some names)
theorem swaps_tup (g : Gd T Γ c sc fn X) {ts vs : List Expr} {k k2 : Nat} {p p2 : Pos} {r : Option (List Str)} (h : swS sc ts vs = some r) : swappedStores [.Tuple ts k p] (.Tuple vs k2 p2) X.env = pure r := by
  have e : (ScopeKind.function != ScopeKind.function) = false := by decide
  unfold swS at h
  simp only [swappedStores, g.bk, Env.kindOf, g.nm, e, Bool.or_false]
  split at h
  · rename_i q; cases h; exact if_pos q
  rename_i q; refine (if_neg q).trans ?_
  split at h
  · rename_i q; cases h; exact if_pos q
  rename_i q; refine (if_neg q).trans ?_
  dsimp only at h
  split at h
  · rename_i q; cases h; exact if_pos q
  rename_i q; refine (if_neg q).trans ?_
  split at h
  · rename_i q; cases h; exact if_pos q
  rename_i q; refine (if_neg q).trans ?_
  split at h
  · cases h
  rename_i q; refine (if_neg q).trans ?_
  cases h
  rfl
end
end DL
/-! DL26: the check of expressions. -/
namespace DL
open PySem PySem.Spec PyProof.Rows L2
mutual
def eqD : D → D → Bool
  | .int i, .int j => decide (i = j)
  | .bool i, .bool j => i == j
  | .str i, .str j => decide (i = j)
  | .none, .none => true
  | .tuple xs, .tuple ys => eqDs xs ys
  | .list xs, .list ys => eqDs xs ys
  | _, _ => false
def eqDs : List D → List D → Bool
  | [], [] => true
  | x :: xs, y :: ys => eqD x y && eqDs xs ys
  | _, _ => false
end
mutual
theorem eqD_eq : ∀ (x y : D), eqD x y = true → x = y
  | .int i, y, h => by cases y <;> simp [eqD] at h <;> rw [h]
  | .bool i, y, h => by cases y <;> simp [eqD] at h <;> rw [h]
  | .str i, y, h => by cases y <;> simp [eqD] at h <;> rw [h]
  | .none, y, h => by cases y <;> simp [eqD] at h; rfl
  | .tuple xs, y, h => by cases y <;> simp [eqD] at h; rw [eqDs_eq xs _ h]
  | .list xs, y, h => by cases y <;> simp [eqD] at h; rw [eqDs_eq xs _ h]
  | .dict _, y, h => by cases y <;> simp [eqD] at h
theorem eqDs_eq : ∀ (x y : List D), eqDs x y = true → x = y
  | [], y, h => by cases y <;> simp [eqDs] at h; rfl
  | x :: xs, y, h => by
    cases y with
    | nil => simp [eqDs] at h
    | cons y ys =>
      simp only [eqDs, Bool.and_eq_true] at h
      rw [eqD_eq x y h.1, eqDs_eq xs ys h.2]
end
def okN (x : Str) : Bool := !(x == ("__debug__" : Str)) && !(x == ("__classdict__" : Str)) && !(x == ("__name__" : Str))
def isVis (sc : Sc) (x : Str) : Bool := decide (sc.lookup x = some .local) || decide (sc.lookup x = some .cell) || decide (sc.lookup x = some .free)
/-- a name of a global that is called f -/
def gName? (sc : Sc) (f : String) : Expr → Bool
  | .Name id _ => id == Str.ofString f && decide (sc.lookup id = some .globalImplicit) && okN id
  | _ => false
def biN : Bi → String
  | .len => "len" | .tuple => "tuple" | .list => "list" | .abs => "abs" | .int => "int" | .divmod => "divmod" | .gcd => "gcd" | .isInt => "int" | .isBool => "bool" | .isTuple => "tuple" | .repr => "repr" | .sum => "sum"
  | .sorted => "sorted" | .all => "all" | .any => "any" | .max => "max" | .min => "min" | .str => "str" | .isStr => "str" | .isList => "list"
def isIs : Bi → Bool
  | .isInt | .isBool | .isTuple | .isStr | .isList => true
  | _ => false
def litB : D → Expr → Bool
  | .int i, .Constant (.int j) _ _ => decide (i = j)
  | .bool i, .Constant (.bool j) _ _ => i == j
  | .str i, .Constant (.str j) _ _ => decide (i = j)
  | .none, .Constant .none _ _ => true
  | _, _ => false
/-- tests that need no look at their branches -/
def tst : Expr → Bool
  | .IfExp .. => false
  | _ => true
def isTup : Expr → Bool
  | .Tuple .. => true
  | _ => false
def needT : Ex → Bool
  | .enum _ => true
  | .zip _ _ => true
  | _ => false
/-- a target of names: its names may be stored here -/
def ckN1 (N : List Str) (sc : Sc) (fn : Str → Bool) (i : Nat) : Expr → Bool
  | .Name id _ => decide (N[i]? = some id) && (decide (sc.lookup id = some .local) || (decide (sc.lookup id = some .cell) && fn id))
  | _ => false
def ckNs (N : List Str) (sc : Sc) (fn : Str → Bool) : List Tn → List Expr → Bool
  | [], [] => true
  | .name i :: ts, e :: es => ckN1 N sc fn i e && ckNs N sc fn ts es
  | _, _ => false
def ckN (N : List Str) (sc : Sc) (fn : Str → Bool) : Tn → Expr → Bool
  | .name i, e => ckN1 N sc fn i e
  | .tup ts, .Tuple es _ _ => ckNs N sc fn ts es
  | _, _ => false
/-- a block's names -/
def blkB (N : List Str) (sc : Sc) (scope : Scope) (O : List Nat) : Bool :=
  decide (scope.kind = .function) && (scope.names.all fun y => decide (scope.names.lookup y.1 = some y.2)) && O.all (fun j => (N[j]?).isSome) &&
    scope.names.all fun y => match y.2 with
      | .free => decide (sc.lookup y.1 = some .cell) || decide (sc.lookup y.1 = some .free)
      | .local => O.any (fun j => decide (N[j]? = some y.1)) || !(N.contains y.1)
      | .cell => O.any (fun j => decide (N[j]? = some y.1)) || !(N.contains y.1)
      | _ => true
def kwB : List Str → List Keyword → Bool
  | [], [] => true
  | p :: ps, k :: ks => decide (k.arg = some p) && kwB ps ks
  | _, _ => false
def kwV : List Keyword → List Expr
  | [] => []
  | k :: ks => k.value :: kwV ks
def Tb.isF (T : Tb) (f : String) (n : Nat) : Bool := decide (T.fns.lookup f = some n)
def Tb.knows (T : Tb) : Bi → Bool
  | .gcd => T.blt.contains "math.gcd"
  | .str => false
  | b => T.blt.contains (biN b)
mutual
def ck (T : Tb) : Ex → Sc → Expr → Bool
  | .lit d, _, e => litB d e
  | .con x d, sc, e => gName? sc x e && (match T.con.lookup x with
    | some d' => eqD d' d
    | none => false)
  | .var i, sc, e => match e with
    | .Name id _ => decide (T.N[i]? = some id) && isVis sc id && okN id
    | _ => false
  | .op2 o a b, sc, e => match e with
    | .BinOp l op r _ => decide (op = o.op) && ck T a sc l && ck T b sc r
    | _ => false
  | .repL es n, sc, e => match e with
    | .BinOp (.List ls _) op r _ => decide (op = .Mult) && cks T es sc ls && decide (es.length ≤ 1000) && ck T n sc r
    | _ => false
  | .cmp o a b, sc, e => match e with
    | .Compare l [op] [r] _ => decide (op = o.op) && ck T a sc l && ck T b sc r && notSet r
    | _ => false
  | .isN a, sc, e => match e with
    | .Compare l [.Is] [.Constant .none _ _] _ => ck T a sc l
    | _ => false
  | .notN a, sc, e => match e with
    | .Compare l [.IsNot] [.Constant .none _ _] _ => ck T a sc l
    | _ => false
  | .chain o o' a b c, sc, e => match e with
    | .Compare l [op, op'] [r, q] _ => decide (op = o.op) && decide (op' = o'.op) && ck T a sc l && ck T b sc r && ck T c sc q && notSet q
    | _ => false
  | .neg a, sc, e => match e with
    | .UnaryOp .USub l _ => ck T a sc l
    | _ => false
  | .not a, sc, e => match e with
    | .UnaryOp .Not l _ => ck T a sc l && tst l
    | _ => false
  | .and a b, sc, e => match e with
    | .BoolOp .And (x :: y :: r) p => ck T a sc x && tst x && (match r with
      | [] => ck T b sc y && tst y
      | _ :: _ => ck T b sc (.BoolOp .And (y :: r) p))
    | _ => false
  | .or a b, sc, e => match e with
    | .BoolOp .Or (x :: y :: r) p => ck T a sc x && tst x && (match r with
      | [] => ck T b sc y && tst y
      | _ :: _ => ck T b sc (.BoolOp .Or (y :: r) p))
    | _ => false
  | .ife c a b, sc, e => match e with
    | .IfExp q x y _ => ck T c sc q && tst q && ck T a sc x && ck T b sc y
    | _ => false
  | .tup es, sc, e => match e with
    | .Tuple xs _ _ => cks T es sc xs && decide (es.length ≤ 1000)
    | _ => false
  | .lst es, sc, e => match e with
    | .List xs _ => cks T es sc xs && decide (es.length ≤ 1000)
    | _ => false
  | .idx a b, sc, e => match e with
    | .Subscript l r _ => ck T a sc l && ck T b sc r && notSlice r
    | _ => false
  | .slc a lo hi, sc, e => match e with
    | .Subscript l (.Slice x y none _) _ => ck T a sc l && cko T lo sc x && cko T hi sc y
    | _ => false
  | .call f es, sc, e => match e with
    | .Call g xs [] _ => gName? sc f g && T.isF f es.length && cks T es sc xs
    | _ => false
  | .callK f ks es, sc, e => match e with
    | .Call g [] kws _ => gName? sc f g && T.isF f es.length && (match T.pars.lookup f with
      | some ps => kwB ps kws
      | none => false) && cks T es sc (kwV kws)
    | _ => false
  | .callIo f a es, sc, e => match e with
    | .Call g (x :: xs) [] _ => gName? sc f g && T.isF f (es.length + 1) && ck T a sc x && noStar x && cks T es sc xs
    | _ => false
  | .bi b es, sc, e => match e with
    | .Call g xs [] _ => match isIs b with
      | true => (match es, xs with
        | [_], [x, t] => gName? sc "isinstance" g && T.blt.contains "isinstance" && gName? sc (biN b) t && T.blt.contains (biN b) && cks T es sc [x]
        | _, _ => false)
      | false => gName? sc (biN b) g && T.knows b && cks T es sc xs && decide (0 < es.length)
    | _ => false
  | .comp elt tg it ifs own, sc, e => match e with
    | .ListComp x [⟨t, i, fs, 0⟩] scope _ => ck T it sc i && notSet i && (!needT it || isTup t) && blkB T.N sc scope own && ckN T.N (relN scope.names sc) (fun y => scope.names.lookup y == some .cell) tg t && (tnNames tg).all (fun j => own.contains j) &&
        (match fs with
        | [] => (match ifs with
          | none => true
          | some _ => false)
        | [q] => cko T ifs (relN scope.names sc) (some q) && tst q
        | _ => false) && ck T elt (relN scope.names sc) x
    | _ => false
  | .listR es, sc, e => match e with
    | .Call g [.Call g2 [x] [] _] [] _ => gName? sc "list" g && T.blt.contains "list" && gName? sc "range" g2 && T.blt.contains "range" && decide (es.length = 1) && cks T es sc [x]
    | _ => false
  | .listZ a b, sc, e => match e with
    | .Call g [.Call g2 [x, y] [] _] [] _ => gName? sc "list" g && T.blt.contains "list" && gName? sc "zip" g2 && T.blt.contains "zip" && ck T a sc x && noStar x && ck T b sc y && noStar y
    | _ => false
  | .range es, sc, e => match e with
    | .Call g [x] [] _ => gName? sc "range" g && T.blt.contains "range" && decide (es.length = 1) && cks T es sc [x]
    | .Call g [x, y] [] _ => gName? sc "range" g && T.blt.contains "range" && decide (es.length = 2) && cks T es sc [x, y]
    | _ => false
  | .enum a, sc, e => match e with
    | .Call g [x] [] _ => gName? sc "enumerate" g && T.blt.contains "enumerate" && ck T a sc x && noStar x
    | _ => false
  | .zip a b, sc, e => match e with
    | .Call g [x, y] [] _ => gName? sc "zip" g && T.blt.contains "zip" && ck T a sc x && noStar x && ck T b sc y && noStar y
    | _ => false
  | .rev a, sc, e => match e with
    | .Call g [x] [] _ => gName? sc "reversed" g && T.blt.contains "reversed" && ck T a sc x && noStar x
    | _ => false
  | .pop i q, sc, e => match e with
    | .Call (.Attribute (.Name id _) at_ p1) [x] [] p2 => decide (at_ = ("pop" : Str)) && decide (T.N[i]? = some id) && isVis sc id && okN id && (p1.endLine == p2.line) && cko T q sc (some x) && noStar x
    | _ => false
  | .index a b, sc, e => match e with
    | .Call (.Attribute (.Name id p0) at_ p1) [x] [] p2 => decide (at_ = ("index" : Str)) && ck T a sc (.Name id p0) && (p1.endLine == p2.line) && ck T b sc x && noStar x
    | _ => false
  | .count _ _, _, _ => false
def cks (T : Tb) : List Ex → Sc → List Expr → Bool
  | [], _, [] => true
  | e :: es, sc, x :: xs => ck T e sc x && noStar x && cks T es sc xs
  | _, _, _ => false
def cko (T : Tb) : Option Ex → Sc → Option Expr → Bool
  | none, _, none => true
  | some e, sc, some x => ck T e sc x
  | _, _, _ => false
end
end DL
/-! DL27: the check of expressions is sound: pieces. -/
namespace DL
open PySem PySem.Spec PyProof.Rows L2
theorem _root_.L2.PK.imp {X : Cx} {e : List Keyword} {t t' : L2.TA} (h : PK X e t) (i : ∀ σ H Q, t' σ H Q → t σ H Q) : PK X e t' := ⟨fun pos pins s σ H Q I q => h.run pos pins s σ H Q I (i _ _ _ q)⟩
/-- an expression reads as told -/
structure Sn (c : Cf) (X : Cx) (nt : Bool) (e : Expr) (w : W4) : Prop where
  ex : PE X e (tD c w.e)
  t : tst e = true → PT X e (tDT c w.t)
  i : ∀ tg, (!nt || isTup tg) = true → PI X tg e (tDI c w.i)
  f : ∀ tg, (!nt || isTup tg) = true → PI X tg e (tDF c w.f)
inductive Sns (c : Cf) (X : Cx) : List Expr → List W4 → Prop
  | nil : Sns c X [] []
  | cons {e es w ws} : PE X e (tD c w.e) → noStar e = true → Sns c X es ws → Sns c X (e :: es) (w :: ws)
section
variable {T : Tb} {Γ : Gam} {c : Cf} {sc : Sc} {fn : Str → Bool} {X : Cx} {e a b x y : Expr} {es xs : List Expr} {w wa wb : DTE} {ws : List W4} {nt : Bool} {n : Nat} {pos p : Pos} {sp : DSp}
theorem pe_no {w : DTE} (h : ∀ E ρ Q, ¬ w E ρ Q) : PE X e (tD c w) := ⟨fun _ _ _ _ _ _ ⟨_, _, _, _, _, q, _⟩ => (h _ _ _ q).elim⟩
theorem pt_no {w : DTT} (h : ∀ E ρ Q, ¬ w E ρ Q) : PT X e (tDT c w) := ⟨fun _ _ _ _ _ _ ⟨_, _, _, _, _, q, _⟩ => (h _ _ _ q).elim⟩
theorem pi_no {tg : Expr} {w : DTI} (h : ∀ E ρ Q, ¬ w E ρ Q) : PI X tg e (tDI c w) := ⟨fun _ _ _ _ _ _ ⟨_, _, _, _, _, q, _⟩ => (h _ _ _ q).elim⟩
theorem pf_no {tg : Expr} {w : DTI} (h : ∀ E ρ Q, ¬ w E ρ Q) : PI X tg e (tDF c w) := ⟨fun _ _ _ _ _ _ ⟨_, _, _, _, _, q, _⟩ => (h _ _ _ q).elim⟩
theorem pw_of {op : BoolOp} {vs : List Expr} {t : L2.TT} (h : PT X (.BoolOp op vs p) t) : PW X (.BoolOp op vs p) t := ⟨fun _ pins s σ H Q I q => h.run pins s σ H Q I q⟩
/-- by the value alone -/
theorem Sn.of (g : Gd T Γ c sc fn X) (h : PE X e (tD c w)) (ht : PT X e (tDT c (asT w))) : Sn c X false e (.of w) := ⟨h, fun _ => ht, fun _ _ => i_seq g.K h, fun _ _ => f_seq g.K h⟩
theorem Sn.val (g : Gd T Γ c sc fn X) (h : PE X e (tD c w)) (hv : byVal e = true) : Sn c X false e (.of w) := Sn.of g h (t_val h (isTrue_val hv))
theorem Sns.len (h : Sns c X es ws) : es.length = ws.length := by induction h with
  | nil => rfl
  | cons _ _ _ ih => simp [ih]
theorem Sns.pa (h : Sns c X es ws) : PA X es (tDH c ws.length (eL ws)) := by induction h with
  | nil => exact d_nil
  | cons h1 h2 _ ih => exact d_cons h1 ih (starEach_cons h2)
theorem nil_imp (σ : St) (H : Hp) (Q : List V → Hp → Prop) (h : tDH c 0 (eL []) σ H Q) : tNil σ H Q := by
  obtain ⟨F, ρ, E, Qd, rp, hw, xc, k⟩ := h
  exact k [] H ρ [] [] rfl Nx.refl (by rw [FL_nil]; exact rp) .nil (fun _ z => absurd z (by simp)) hw
theorem Sns.pk (h : Sns c X es ws) : ∀ {kws : List Keyword}, kwV kws = es → PK X kws (tDH c ws.length (eL ws)) := by
  induction h with
  | nil =>
    intro kws e
    cases kws with
    | nil => exact pk_nil.imp nil_imp
    | cons k ks => cases e
  | cons h1 h2 _ ih =>
    intro kws e
    cases kws with
    | nil => cases e
    | cons k ks =>
      obtain ⟨nm, v, kp⟩ := k
      simp only [kwV, List.cons.injEq] at e
      obtain ⟨rfl, e⟩ := e
      exact (pk_cons h1 (ih e)).imp cons_imp
theorem Sns.plain (h : Sns c X es ws) : (backTo pos (starEach es X.env)).any (·.1) = false := by
  induction h with
  | nil => rfl
  | cons h1 h2 _ ih =>
    rw [starEach_cons h2]
    simp only [backTo, List.map_cons, List.any_cons, Bool.false_or] at ih ⊢
    exact ih
theorem Sns.head (h : Sns c X (e :: es) ws) : starEach (e :: es) X.env = (false, eval e X.env) :: starEach es X.env := by cases h with | cons _ h2 _ => exact starEach_cons h2
theorem Sns.tail (h : Sns c X (e :: es) ws) : ∃ ws', Sns c X es ws' := by cases h with | cons _ _ h3 => exact ⟨_, h3⟩
theorem gn_ok {f : String} {g : Expr} (h : gName? sc f g = true) : ∃ p, g = .Name (Str.ofString f) p ∧ sc.lookup (Str.ofString f) = some .globalImplicit ∧ ((Str.ofString f) == ("__debug__" : Str)) = false ∧ Str.ofString f ≠ "__name__" := by
  cases g <;> simp only [gName?] at h <;> first | cases h | skip
  rename_i id p
  simp only [Bool.and_eq_true, okN, Bool.not_eq_true', decide_eq_true_eq] at h
  obtain ⟨⟨h1, h2⟩, ⟨h3, h4⟩, h5⟩ := h
  obtain rfl := beq_iff_eq.mp h1
  exact ⟨p, rfl, h2, h3, fun q => by rw [q] at h5; revert h5; decide +kernel⟩
/-! calls of defs -/
theorem n_call (g : Gd T Γ c sc fn X) {f : String} {h : Expr} (hn : gName? sc f h = true) (hf : T.isF f n = true) (hs : Sns c X xs ws) (hl : ws.length = n) : PE X (.Call h xs [] pos) (tD c (callW (Γ f) ws)) := by
  obtain ⟨p, rfl, h1, h2, h3⟩ := gn_ok hn
  obtain ⟨CX, k, fa, fd, ps, c1, c2, c3, c4, c5, c6, c7, c8, c9⟩ := (g.call f n (of_decide_eq_true hf)).ex
  subst hl
  cases hs with
  | nil => exact d_call g.K (g_call0 c1 g.gd c2 (g.gl h1) c3 c4 c5 c7 h2) nil_imp
  | cons a1 a2 a3 => exact d_call g.K (g_call c1 g.gd c2 (g.gl h1) c3 c4 c5 c7 (Sns.cons a1 a2 a3).pa h2 (starEach_cons a2) a3.plain) fun _ _ _ q => q
theorem n_callIo (g : Gd T Γ c sc fn X) {f : String} {h : Expr} {w0 : W4} (hn : gName? sc f h = true) (hf : T.isF f (n + 1) = true) (ha : PE X x (tD c w0.e)) (hx : noStar x = true) (hs : Sns c X xs ws) (hl : ws.length = n) : PE X (.Call h (x :: xs) [] pos) (tD c (callIoW (Γ f) w0 ws)) := by
  obtain ⟨p, rfl, h1, h2, h3⟩ := gn_ok hn
  obtain ⟨CX, k, fa, fd, ps, c1, c2, c3, c4, c5, c6, c7, c8, c9⟩ := (g.call f (n + 1) (of_decide_eq_true hf)).ex
  subst hl
  exact d_callIo g.K (g_call c1 g.gd c2 (g.gl h1) c3 c4 c5 c7 (Sns.cons ha hx hs).pa h2 (starEach_cons hx) hs.plain) fun _ _ _ q => q
theorem kw_all : ∀ {ps : List Str} {kws : List Keyword} {env : Env}, kwB ps kws = true → (backToKw pos (keywordEach kws env)).all (·.1.isSome) = true ∧ (backToKw pos (keywordEach kws env)).filterMap (·.1) = ps ∧ (backToKw pos (keywordEach kws env)).any (·.1.isNone) = false
  | [], [], _, _ => ⟨rfl, rfl, rfl⟩
  | [], _ :: _, _, h => by cases h
  | _ :: _, [], _, h => by cases h
  | p :: ps, ⟨nm, v, kp⟩ :: ks, env, h => by
    simp only [kwB, Bool.and_eq_true, decide_eq_true_eq] at h
    obtain ⟨h1, h2⟩ := h
    have h1 : nm = some p := h1
    subst h1
    obtain ⟨i1, i2, i3⟩ := kw_all (env := env) h2
    simp only [backToKw, keywordEach, List.map_cons, List.all_cons, List.filterMap_cons, List.any_cons, Option.isSome_some, Option.isNone_some, Bool.true_and, Bool.false_or] at i1 i2 i3 ⊢
    exact ⟨i1, by rw [i2], i3⟩
theorem n_callK (g : Gd T Γ c sc fn X) {f : String} {h : Expr} {qs : List Str} {kws : List Keyword} (hn : gName? sc f h = true) (hf : T.isF f n = true) (hp : T.pars.lookup f = some qs) (hk : kwB qs kws = true) (hs : Sns c X (kwV kws) ws) (hl : ws.length = n) :
    PE X (.Call h [] kws pos) (tD c (callW (Γ f) ws)) := by
  obtain ⟨p, rfl, h1, h2, h3⟩ := gn_ok hn
  obtain ⟨CX, k, fa, fd, ps, c1, c2, c3, c4, c5, c6, c7, c8, c9⟩ := (g.call f n (of_decide_eq_true hf)).ex
  subst hl
  obtain ⟨rfl, c10⟩ := c8 qs hp
  obtain ⟨k1, k2, k3⟩ := kw_all (pos := pos) (env := X.env) hk
  exact d_call g.K (g_callK c1 g.gd c2 (g.gl h1) c3 c4 c10 c7 (hs.pk rfl) k1 k2 h2 (by rw [k3]; rfl)) fun _ _ _ q => q
/-! built-ins -/
theorem n_bi (g : Gd T Γ c sc fn X) {nm : String} {id : String} {gg : List D → KR → Prop} {h : Expr} (hc : CallR X (.builtin id) (rBi X.K gg)) (hv : bootBuiltins (Str.ofString nm) = some (.builtin id)) (hn : gName? sc nm h = true) (hb : T.blt.contains nm = true) (hs : Sns c X (x :: xs) ws) :
    PE X (.Call h (x :: xs) [] pos) (tD c fun E ρ Q => eL ws E ρ fun rs ρ1 => withs ρ1 rs fun ds => gg ds fun z => Q z ρ1) := by
  obtain ⟨p, rfl, h1, h2, h3⟩ := gn_ok hn
  obtain ⟨ws', h4⟩ := hs.tail
  exact d_bi g.K (pe_callB hc (g.gl h1) (g.blt _ hb) hv hs.pa h3 h2 hs.head h4.plain) fun _ _ _ q => q
theorem n_ty (g : Gd T Γ c sc fn X) {nm : String} {id : String} {gg : List D → KR → Prop} {h : Expr} (hc : CallR X (.type id) (rBi X.K gg)) (hv : bootBuiltins (Str.ofString nm) = some (.type id)) (hn : gName? sc nm h = true) (hb : T.blt.contains nm = true) (hs : Sns c X (x :: xs) ws) :
    PE X (.Call h (x :: xs) [] pos) (tD c fun E ρ Q => eL ws E ρ fun rs ρ1 => withs ρ1 rs fun ds => gg ds fun z => Q z ρ1) := by
  obtain ⟨p, rfl, h1, h2, h3⟩ := gn_ok hn
  obtain ⟨ws', h4⟩ := hs.tail
  exact d_bi g.K (pe_callTy hc (g.gl h1) (g.blt _ hb) hv hs.pa h3 h2 hs.head h4.plain) fun _ _ _ q => q
theorem n_is (g : Gd T Γ c sc fn X) {ty : String} {f : D → Bool} {h t : Expr} (kT : ∀ d, kitB (tyD d) ty = some (f d)) (hv : bootBuiltins (Str.ofString ty) = some (.type ty)) (hn : gName? sc "isinstance" h = true) (hb : T.blt.contains "isinstance" = true) (hn2 : gName? sc ty t = true) (hb2 : T.blt.contains ty = true) (ha : PE X x (tD c w)) (hx : noStar x = true) :
    PE X (.Call h [x, t] [] pos) (tD c fun E ρ Q => w E ρ fun r ρ1 => withs ρ1 [r] fun ds => bIs f ds fun z => Q z ρ1) := by
  obtain ⟨p, rfl, h1, h2, h3⟩ := gn_ok hn
  obtain ⟨p2, rfl, h4, h5, h6⟩ := gn_ok hn2
  exact d_is g.K kT (g.gl h1) (g.blt _ hb) (g.gl h4) (g.blt _ hb2) hv h6 h5 ha (starEach_cons hx)
end
end DL
/-! DL28: the check of expressions is sound. -/
namespace DL
open PySem PySem.Spec PyProof.Rows L2
section
variable {T : Tb} {Γ : Gam} {c : Cf} {sc : Sc} {fn : Str → Bool} {X : Cx} {e : Expr}
theorem lit_ok {d : D} (g : Gd T Γ c sc fn X) (h : litB d e = true) : PE X e (tD c fun _ ρ Q => Q (.dat d) ρ) ∧ byVal e = true := by
  unfold litB at h
  split at h
  · obtain rfl := of_decide_eq_true h; exact ⟨d_val pe_int fun _ _ => .int _, rfl⟩
  · obtain rfl := beq_iff_eq.mp h; exact ⟨d_val pe_bl fun _ _ => .bl _, rfl⟩
  · obtain rfl := of_decide_eq_true h; exact ⟨d_val pe_str fun _ _ => .str _, rfl⟩
  · exact ⟨d_val pe_non fun _ _ => .non, rfl⟩
  · cases h
theorem var_ok {i : Nat} {id : Str} {p : Pos} (g : Gd T Γ c sc fn X) (h1 : T.N[i]? = some id) (h2 : isVis sc id = true) (h3 : okN id = true) : PE X (.Name id p) (tVar i) := by
  simp only [okN, Bool.and_eq_true, Bool.not_eq_true'] at h3
  exact pe_var (by rw [g.N]; exact h1) (g.vis h2) h3.1.1 h3.1.2
theorem len_wps : ∀ (es : List Ex), (wps Γ es).length = es.length
  | [] => rfl
  | _ :: es => by simp only [wps, List.length_cons, len_wps es]
theorem bi_sn (g : Gd T Γ c sc fn X) {b : Bi} {h x : Expr} {xs : List Expr} {ws : List W4} {pos : Pos} (hi : isIs b = false) (hn : gName? sc (biN b) h = true) (hb : T.knows b = true) (hs : Sns c X (x :: xs) ws) : PE X (.Call h (x :: xs) [] pos) (tD c fun E ρ Q => eL ws E ρ fun rs ρ1 => withs ρ1 rs fun ds => biD b ds fun z => Q z ρ1) := by
  have hu := g.un
  cases b <;> first | cases hi | skip
  · exact n_bi g b_len (by decide +kernel) hn hb hs
  · exact n_ty g b_tuple (by decide +kernel) hn hb hs
  · exact n_ty g b_list (by decide +kernel) hn hb hs
  · exact n_bi g b_abs (by decide +kernel) hn hb hs
  · exact n_ty g b_int (by decide +kernel) hn hb hs
  · exact n_bi g b_divmod (by decide +kernel) hn hb hs
  · obtain ⟨p, rfl, h1, h2, h3⟩ := gn_ok hn
    obtain ⟨ws', h4⟩ := hs.tail
    exact d_bi g.K (pe_callBfun b_gcd (g.gl h1) (g.gcd hb) hs.pa h2 hs.head h4.plain) fun _ _ _ q => q
  · exact n_bi g (b_repr g.gd hu) (by decide +kernel) hn hb hs
  · exact n_bi g (b_sum g.calm) (by decide +kernel) hn hb hs
  · exact n_bi g b_sorted (by decide +kernel) hn hb hs
  · exact n_bi g (b_all g.calm) (by decide +kernel) hn hb hs
  · exact n_bi g (b_any g.calm) (by decide +kernel) hn hb hs
  · exact n_bi g (b_max g.calm) (by decide +kernel) hn hb hs
  · exact n_bi g (b_min g.calm) (by decide +kernel) hn hb hs
  · cases hb
theorem is_sn (g : Gd T Γ c sc fn X) {b : Bi} {h x t : Expr} {w : W4} {pos : Pos} (hi : isIs b = true) (hn : gName? sc "isinstance" h = true) (hb : T.blt.contains "isinstance" = true) (hn2 : gName? sc (biN b) t = true) (hb2 : T.blt.contains (biN b) = true) (ha : PE X x (tD c w.e)) (hx : noStar x = true) :
    PE X (.Call h [x, t] [] pos) (tD c fun E ρ Q => eL [w] E ρ fun rs ρ1 => withs ρ1 rs fun ds => biD b ds fun z => Q z ρ1) := by
  cases b <;> first | cases hi | skip
  · exact n_is g k_int (by decide +kernel) hn hb hn2 hb2 ha hx
  · exact n_is g k_bool (by decide +kernel) hn hb hn2 hb2 ha hx
  · exact n_is g k_tuple (by decide +kernel) hn hb hn2 hb2 ha hx
  · exact n_is g k_str (by decide +kernel) hn hb hn2 hb2 ha hx
  · exact n_is g k_list (by decide +kernel) hn hb hn2 hb2 ha hx
theorem blk_ok {scope : Scope} {O : List Nat} (g : Gd T Γ c sc fn X) (h : blkB T.N sc scope O = true) : BlkOk X.N X.env.scope scope (O.map fun j => ((T.N[j]?).getD (Str.ofString ""), j)) ∧ scope.kind = .function := by
  simp only [blkB, Bool.and_eq_true, decide_eq_true_eq, List.all_eq_true] at h
  obtain ⟨⟨⟨h1, h2⟩, h3⟩, h4⟩ := h
  have own : ∀ (y : Str), (O.any (fun j => decide (T.N[j]? = some y)) || !(T.N.contains y)) = true → y ∈ (O.map fun j => ((T.N[j]?).getD (Str.ofString ""), j)).map (·.1) ∨ y ∉ X.N := fun y q => by
    simp only [Bool.or_eq_true, List.any_eq_true, decide_eq_true_eq, Bool.not_eq_true'] at q
    rcases q with ⟨j, hj, e⟩ | q
    · exact .inl (List.mem_map.mpr ⟨_, List.mem_map.mpr ⟨j, hj, rfl⟩, by rw [e]; rfl⟩)
    · refine .inr fun m => ?_
      rw [g.N] at m
      rw [List.contains_iff_mem.mpr m] at q; cases q
  refine ⟨⟨h1, h2, fun q hq => ?_, fun y hy e => ?_, fun y hy e => ?_⟩, h1⟩
  · obtain ⟨j, hj, rfl⟩ := List.mem_map.mp hq
    rw [g.N]
    have := h3 j hj
    cases e : T.N[j]? with
    | none => rw [e] at this; cases this
    | some z => rfl
  · have := h4 y hy
    rw [e] at this
    rw [g.nm]
    simpa using this
  · have := h4 y hy
    rcases e with e | e <;> rw [e] at this <;> exact own _ this
theorem n1_ok {N : List Str} {i : Nat} {y : Str} {p : Pos} (hN : X.N = N) (nd : N.Nodup) (nm : X.env.scope.names = sc) (hf : ∀ x, fn x = true → X.fn x = true) (h : ckN1 N sc fn i (.Name y p) = true) : PG X (.Name y p) (gName i) := by
  simp only [ckN1, Bool.and_eq_true, Bool.or_eq_true, decide_eq_true_eq] at h
  obtain ⟨h1, h2⟩ := h
  refine pg_name (by rw [hN]; exact nd) (by rw [hN]; exact h1) ?_ ?_
  · show L2.Loc _ _; unfold L2.Loc; rw [nm]; exact h2.imp id And.left
  · rw [nm]; exact h2.symm.imp (fun q => hf _ q.2) id
end
end DL
/-! DL29: the check of expressions is sound. -/
namespace DL
open PySem PySem.Spec PyProof.Rows L2
theorem ns_ok {N : List Str} {sc : Sc} {fn : Str → Bool} {X : Cx} {K : PySem.W.Frag} (hN : X.N = N) (nd : N.Nodup) (nm : X.env.scope.names = sc) (hf : ∀ x, fn x = true → X.fn x = true) :
    ∀ (ts : List Tn) (es : List Expr), ckNs N sc fn ts es = true → PGs X es (gsOf K ts) ∧ (assignEach es X.env).length = ts.length ∧ (assignEach es X.env).findIdx? (·.1) = none
  | [], [], _ => ⟨pgs_nil, rfl, rfl⟩
  | [], _ :: _, h => by cases h
  | .name i :: ts, e :: es, h => by
    simp only [ckNs, Bool.and_eq_true] at h
    obtain ⟨h1, h2⟩ := h
    cases e <;> simp only [ckN1] at h1 <;> first | cases h1 | skip
    obtain ⟨i1, i2, i3⟩ := ns_ok hN nd nm hf ts es h2
    refine ⟨pgs_cons (n1_ok hN nd nm hf h1) i1, ?_, ?_⟩
    · rw [assign_cons rfl]; simp [i2]
    · rw [assign_cons rfl, List.findIdx?_cons]; simp [i3]
  | .name _ :: _, [], h => by cases h
  | .tup _ :: _, _, h => by simp [ckNs] at h
theorem n_ok {N : List Str} {sc : Sc} {fn : Str → Bool} {X : Cx} {K : PySem.W.Frag} (hN : X.N = N) (nd : N.Nodup) (nm : X.env.scope.names = sc) (hf : ∀ x, fn x = true → X.fn x = true) (hc : X.calm = true) (hK : X.K = K) :
    ∀ (t : Tn) (e : Expr), ckN N sc fn t e = true → PG X e (gOf K t)
  | .name i, e, h => by
    cases e <;> simp only [ckN, ckN1] at h <;> first | cases h | skip
    exact n1_ok hN nd nm hf h
  | .tup ts, e, h => by
    cases e <;> simp only [ckN] at h <;> first | cases h | skip
    obtain ⟨i1, i2, i3⟩ := ns_ok (K := K) hN nd nm hf ts _ h
    have := pg_tup (k := ‹Nat›) (pos := ‹Pos›) hc i1 i2 i3
    rw [hK] at this
    exact this
section
variable {T : Tb} {Γ : Gam}
mutual
theorem ck_ok : ∀ (q : Ex) {c : Cf} {sc : Sc} {fn : Str → Bool} {X : Cx} {e : Expr}, Gd T Γ c sc fn X → ck T q sc e = true → Sn c X (needT q) e (wp Γ q)
  | .lit d, c, sc, fn, X, e, g, h => by
    simp only [ck] at h
    obtain ⟨h1, h2⟩ := lit_ok g h
    exact .val g h1 h2
  | .con x d, c, sc, fn, X, e, g, h => by
    simp only [ck, Bool.and_eq_true] at h
    obtain ⟨h1, h2⟩ := h
    split at h2
    · rename_i d' e'
      obtain rfl := eqD_eq _ _ h2
      obtain ⟨p, rfl, h3, h4, h5⟩ := gn_ok h1
      obtain ⟨u, v, g1, g2, g3⟩ := g.con _ _ e'
      exact .val g (d_val (pe_glob (g.gl h3) g1 g2 h4) g3) rfl
    · cases h2
  | .var i, c, sc, fn, X, e, g, h => by
    simp only [ck] at h
    split at h
    · simp only [Bool.and_eq_true, decide_eq_true_eq] at h
      exact .val g (d_var (var_ok g h.1.1 h.1.2 h.2)) rfl
    · cases h
  | .op2 o a b, c, sc, fn, X, e, g, h => by
    simp only [ck] at h
    split at h
    · simp only [Bool.and_eq_true, decide_eq_true_eq] at h
      obtain ⟨⟨rfl, h1⟩, h2⟩ := h
      exact .val g (d_op2 (ck_ok a g h1).ex (ck_ok b g h2).ex g.K) rfl
    · cases h
  | .repL es n, c, sc, fn, X, e, g, h => by
    simp only [ck] at h
    split at h
    · simp only [Bool.and_eq_true, decide_eq_true_eq] at h
      obtain ⟨⟨⟨rfl, h1⟩, h2⟩, h3⟩ := h
      have := (cks_ok es g h1).pa
      rw [len_wps] at this
      exact .val g (d_repL (ns := []) h2 this (ck_ok n g h3).ex) rfl
    · cases h
  | .cmp o a b, c, sc, fn, X, e, g, h => by
    simp only [ck] at h
    split at h
    · simp only [Bool.and_eq_true, decide_eq_true_eq] at h
      obtain ⟨⟨⟨rfl, h1⟩, h2⟩, h3⟩ := h
      have hu := g.un
      exact .of g (d_cmp (ck_ok a g h1).ex (ck_ok b g h2).ex g.K (by omega) (behind h3)) (t_cmp (ck_ok a g h1).ex (ck_ok b g h2).ex g.K (by omega) (behind h3))
    · cases h
  | .isN a, c, sc, fn, X, e, g, h => by
    simp only [ck] at h
    split at h
    · exact .of g (d_isN (ck_ok a g h).ex) (t_isN (ck_ok a g h).ex)
    · cases h
  | .notN a, c, sc, fn, X, e, g, h => by
    simp only [ck] at h
    split at h
    · exact .of g (d_notN (ck_ok a g h).ex) (t_notN (ck_ok a g h).ex)
    · cases h
  | .chain o o' a b q, c, sc, fn, X, e, g, h => by
    simp only [ck] at h
    split at h
    · simp only [Bool.and_eq_true, decide_eq_true_eq] at h
      obtain ⟨⟨⟨⟨⟨rfl, rfl⟩, h1⟩, h2⟩, h3⟩, h4⟩ := h
      have hu := g.un
      exact .of g (d_chain (ck_ok a g h1).ex (ck_ok b g h2).ex (ck_ok q g h3).ex g.K (by omega) (marks h4)) (t_chain (ck_ok a g h1).ex (ck_ok b g h2).ex (ck_ok q g h3).ex g.K (by omega) (marks h4))
    · cases h
  | .neg a, c, sc, fn, X, e, g, h => by
    simp only [ck] at h
    split at h
    · exact .val g (d_neg (ck_ok a g h).ex) rfl
    · cases h
  | .not a, c, sc, fn, X, e, g, h => by
    simp only [ck] at h
    split at h
    · simp only [Bool.and_eq_true] at h
      exact ⟨d_not (ck_ok a g h.1).ex, fun _ => t_not ((ck_ok a g h.1).t h.2), fun _ _ => pi_no fun _ _ _ q => q, fun _ _ => pf_no fun _ _ _ q => q⟩
    · cases h
  | .and a b, c, sc, fn, X, e, g, h => by
    simp only [ck] at h
    split at h
    · rename_i x y r p
      simp only [Bool.and_eq_true] at h
      obtain ⟨⟨h1, h2⟩, h3⟩ := h
      have sa := ck_ok a g h1
      have sb : PE X (.BoolOp .And (y :: r) p) (tD c (wp Γ b).e) ∧ PW X (.BoolOp .And (y :: r) p) (tDT c (wp Γ b).t) := by
        cases r with
        | nil =>
          simp only [Bool.and_eq_true] at h3
          have s := ck_ok b g h3.1
          exact ⟨pe_one s.ex, pw_and1 (s.t h3.2)⟩
        | cons z r =>
          have s := ck_ok b g h3
          exact ⟨s.ex, pw_of (s.t rfl)⟩
      exact ⟨d_and sa.ex sb.1, fun _ => (t_and (sa.t h2) sb.2).pt, fun _ _ => pi_no fun _ _ _ q => q, fun _ _ => pf_no fun _ _ _ q => q⟩
    · cases h
  | .or a b, c, sc, fn, X, e, g, h => by
    simp only [ck] at h
    split at h
    · rename_i x y r p
      simp only [Bool.and_eq_true] at h
      obtain ⟨⟨h1, h2⟩, h3⟩ := h
      have sa := ck_ok a g h1
      have sb : PE X (.BoolOp .Or (y :: r) p) (tD c (wp Γ b).e) ∧ PW X (.BoolOp .Or (y :: r) p) (tDT c (wp Γ b).t) := by
        cases r with
        | nil =>
          simp only [Bool.and_eq_true] at h3
          have s := ck_ok b g h3.1
          exact ⟨pe_one s.ex, pw_or1 (s.t h3.2)⟩
        | cons z r =>
          have s := ck_ok b g h3
          exact ⟨s.ex, pw_of (s.t rfl)⟩
      exact ⟨d_or sa.ex sb.1, fun _ => (t_or (sa.t h2) sb.2).pt, fun _ _ => pi_no fun _ _ _ q => q, fun _ _ => pf_no fun _ _ _ q => q⟩
    · cases h
  | .ife q a b, c, sc, fn, X, e, g, h => by
    simp only [ck] at h
    split at h
    · simp only [Bool.and_eq_true] at h
      obtain ⟨⟨⟨h1, h2⟩, h3⟩, h4⟩ := h
      have := d_ife (pos := ‹Pos›) ((ck_ok q g h1).t h2) (ck_ok a g h3).ex (ck_ok b g h4).ex
      exact ⟨this, fun z => (by cases z), fun _ _ => i_seq g.K this, fun _ _ => f_seq g.K this⟩
    · cases h
  | .tup es, c, sc, fn, X, e, g, h => by
    simp only [ck] at h
    split at h
    · simp only [Bool.and_eq_true, decide_eq_true_eq] at h
      have := (cks_ok es g h.1).pa
      rw [len_wps] at this
      exact .val g (d_tup h.2 this) rfl
    · cases h
  | .lst es, c, sc, fn, X, e, g, h => by
    simp only [ck] at h
    split at h
    · simp only [Bool.and_eq_true, decide_eq_true_eq] at h
      have := (cks_ok es g h.1).pa
      rw [len_wps] at this
      exact .val g (d_lst h.2 this) rfl
    · cases h
  | .idx a b, c, sc, fn, X, e, g, h => by
    simp only [ck] at h
    split at h
    · simp only [Bool.and_eq_true] at h
      exact .val g (d_idx (ck_ok a g h.1.1).ex (ck_ok b g h.1.2).ex g.K (plainIx h.2)) rfl
    · cases h
  | .slc a lo hi, c, sc, fn, X, e, g, h => by
    simp only [ck] at h
    split at h
    · simp only [Bool.and_eq_true] at h
      exact .val g (d_slc g.K (ck_ok a g h.1.1).ex (cko_ok lo g h.1.2).1 (cko_ok hi g h.2).1) rfl
    · cases h
  | .call f es, c, sc, fn, X, e, g, h => by
    simp only [ck] at h
    split at h
    · simp only [Bool.and_eq_true] at h
      exact .val g (n_call g h.1.1 h.1.2 (cks_ok es g h.2) (len_wps es)) rfl
    · cases h
  | .callK f ks es, c, sc, fn, X, e, g, h => by
    simp only [ck] at h
    split at h
    · simp only [Bool.and_eq_true] at h
      obtain ⟨⟨⟨h1, h2⟩, h3⟩, h4⟩ := h
      split at h3
      · rename_i ps ep
        exact .val g (n_callK g h1 h2 ep h3 (cks_ok es g h4) (len_wps es)) rfl
      · cases h3
    · cases h
  | .callIo f a es, c, sc, fn, X, e, g, h => by
    simp only [ck] at h
    split at h
    · simp only [Bool.and_eq_true] at h
      obtain ⟨⟨⟨⟨h1, h2⟩, h3⟩, h4⟩, h5⟩ := h
      exact .val g (n_callIo g h1 h2 (ck_ok a g h3).ex h4 (cks_ok es g h5) (len_wps es)) rfl
    · cases h
  | .bi b es, c, sc, fn, X, e, g, h => by
    simp only [ck] at h
    split at h
    · rename_i gx xs p
      cases hi : isIs b with
      | true =>
        rw [hi] at h
        dsimp only at h
        split at h
        · rename_i q x t
          simp only [Bool.and_eq_true] at h
          obtain ⟨⟨⟨⟨h1, h2⟩, h3⟩, h4⟩, h5⟩ := h
          have s := cks_ok [q] g h5
          simp only [wps] at s
          cases s with
          | cons s1 s2 _ => exact .val g (is_sn g hi h1 h2 h3 h4 s1 s2) rfl
        · cases h
      | false =>
        rw [hi] at h
        simp only [Bool.and_eq_true, decide_eq_true_eq] at h
        obtain ⟨⟨⟨h1, h2⟩, h3⟩, h4⟩ := h
        have s := cks_ok es g h3
        cases xs with
        | nil =>
          have := s.len
          rw [len_wps] at this
          simp at this
          omega
        | cons x xs => exact .val g (bi_sn g hi h1 h2 s) rfl
    · cases h
  | .comp elt tg it ifs own, c, sc, fn, X, e, g, h => by
    simp only [ck] at h
    split at h
    · rename_i x t i fs scope p
      simp only [Bool.and_eq_true] at h
      obtain ⟨⟨⟨⟨⟨⟨⟨h1, h2⟩, h3⟩, h4⟩, h5⟩, h6⟩, h7⟩, h8⟩ := h
      obtain ⟨bo, hk⟩ := blk_ok g h4
      have om : (own.map fun j => (((T.N[j]?).getD (Str.ofString ""), j) : Str × Nat)).map (·.2) = own := by simp [List.map_map, Function.comp_def]
      have hnm : ∀ j ∈ tnNames tg, j ∈ (own.map fun j => (((T.N[j]?).getD (Str.ofString ""), j) : Str × Nat)).map (·.2) := fun j hj => by
        rw [om]
        exact List.contains_iff_mem.mp (List.all_eq_true.mp h6 j hj)
      have gb := fun s H C cl fp => g.blk s H scope hk C cl fp
      have test : ∀ s H C cl fp, PTs (X.blk s H scope (compEnvC scope cl C X.env) fp) fs (tDT c.quiet (match wpo Γ ifs with
          | none => fun _ ρ Q => Q true ρ
          | some w => w.t)) := fun s H C cl fp => by
        split at h7
        · split at h7
          · simp only [wpo]
            exact ⟨fun pins s σ H Q I ⟨F, ρ, E, Qd, rp, hw, xc, k⟩ => pts_nil.run pins s σ H Q I (k _ _ _ Nx.refl rp hw)⟩
          · cases h7
        · rename_i q
          simp only [Bool.and_eq_true] at h7
          obtain ⟨ho, hs⟩ := cko_ok ifs (gb s H C cl fp) h7.1
          obtain ⟨w, ew, nt, sw⟩ := hs q rfl
          rw [ew]
          exact pts_one (sw.t h7.2)
        · cases h7
      have := pe_lc (elt := x) (pos := p) (ifs := fs) g.calm (by rw [g.N]; exact g.nd) ((ck_ok it g h1).i t h3) bo
        (fun s H C cl fp => n_ok (gb s H C cl fp).N g.nd (gb s H C cl fp).nm (gb s H C cl fp).fn g.calm g.K tg t h5)
        test (fun s H C cl fp => (ck_ok elt (gb s H C cl fp) h8).ex) (folded h2)
      have := this.imp (comp_imp hnm)
      rw [om] at this
      exact .val g this rfl
    · cases h
  | .listR es, c, sc, fn, X, e, g, h => by
    simp only [ck] at h
    split at h
    · rename_i gx g2 x p2 p
      simp only [Bool.and_eq_true, decide_eq_true_eq] at h
      obtain ⟨⟨⟨⟨⟨h1, h2⟩, h3⟩, h4⟩, h5⟩, h6⟩ := h
      obtain ⟨q1, rfl, a1, a2, a3⟩ := gn_ok h1
      obtain ⟨q2, rfl, b1, b2, b3⟩ := gn_ok h3
      have s := cks_ok es g h6
      have hl := s.len
      cases es with
      | nil => cases h5
      | cons q qs =>
        cases qs with
        | cons _ _ => simp at h5
        | nil =>
          simp only [wps] at s
          cases s with
          | cons s1 s2 _ => exact .val g (d_listR1 g.calm (g.gl a1) (g.blt _ h2) (g.gl b1) (g.blt _ h4) s1 (starEach_cons s2) (starEach_cons rfl)) rfl
    · cases h
  | .listZ a b, c, sc, fn, X, e, g, h => by
    simp only [ck] at h
    split at h
    · rename_i gx g2 x y p2 p
      simp only [Bool.and_eq_true] at h
      obtain ⟨⟨⟨⟨⟨⟨⟨h1, h2⟩, h3⟩, h4⟩, h5⟩, h6⟩, h7⟩, h8⟩ := h
      obtain ⟨q1, rfl, a1, a2, a3⟩ := gn_ok h1
      obtain ⟨q2, rfl, b1, b2, b3⟩ := gn_ok h3
      have s : Sns c X [x, y] [wp Γ a, wp Γ b] := .cons (ck_ok a g h5).ex h6 (.cons (ck_ok b g h7).ex h8 .nil)
      obtain ⟨ws', s'⟩ := s.tail
      exact .val g (d_listZ g.K (pe_listZip g.calm (g.gl a1) (g.blt _ h2) (g.gl b1) (g.blt _ h4) s.pa s.head s'.plain (starEach_cons rfl))) rfl
    · cases h
  | .range es, c, sc, fn, X, e, g, h => by
    simp only [ck] at h
    split at h
    · rename_i gx x p
      simp only [Bool.and_eq_true, decide_eq_true_eq] at h
      obtain ⟨⟨⟨h1, h2⟩, h3⟩, h4⟩ := h
      obtain ⟨q1, rfl, a1, a2, a3⟩ := gn_ok h1
      have s := cks_ok es g h4
      have hp := s.pa
      rw [len_wps, h3] at hp
      have r := fun tg => rng_one (tg := tg) (p := q1) (pos := p) (g.gl a1) (g.blt _ h2) hp (s.head)
      exact ⟨pe_no fun _ _ _ q => q, fun _ => pt_no fun _ _ _ q => q, fun tg _ => (r tg).1, fun tg _ => (r tg).2⟩
    · rename_i gx x y p
      simp only [Bool.and_eq_true, decide_eq_true_eq] at h
      obtain ⟨⟨⟨h1, h2⟩, h3⟩, h4⟩ := h
      obtain ⟨q1, rfl, a1, a2, a3⟩ := gn_ok h1
      have s := cks_ok es g h4
      have hp := s.pa
      rw [len_wps, h3] at hp
      obtain ⟨ws', s'⟩ := s.tail
      have e1 : starEach [x, y] X.env = [(false, eval x X.env), (false, eval y X.env)] := by rw [s.head, s'.head]; rfl
      have r := fun tg => rng_two (tg := tg) (p := q1) (pos := p) (g.gl a1) (g.blt _ h2) hp e1 (s'.head)
      exact ⟨pe_no fun _ _ _ q => q, fun _ => pt_no fun _ _ _ q => q, fun tg _ => (r tg).1, fun tg _ => (r tg).2⟩
    · cases h
  | .enum a, c, sc, fn, X, e, g, h => by
    simp only [ck] at h
    split at h
    · rename_i gx x p
      simp only [Bool.and_eq_true] at h
      obtain ⟨⟨⟨h1, h2⟩, h3⟩, h4⟩ := h
      obtain ⟨q1, rfl, a1, a2, a3⟩ := gn_ok h1
      have s := ck_ok a g h3
      have r : ∀ tg, (!true || isTup tg) = true → PI X tg (.Call (.Name (Str.ofString "enumerate") q1) [x] [] p) (iSeqG c.K (IteA c.K) (tD c (wp Γ a).e)) := fun tg ht => by
        cases tg <;> first | cases ht | skip
        rw [← g.K]
        exact pi_enumA (g.gl a1) (g.blt _ h2) s.ex (starEach_cons h4)
      exact ⟨pe_no fun _ _ _ q => q, fun _ => pt_no fun _ _ _ q => q, fun tg ht => i_seqG kd_enum g.K (by rw [g.K]; exact r tg ht), fun tg ht => f_seqG kd_enum g.K (by rw [g.K]; exact r tg ht)⟩
    · cases h
  | .zip a b, c, sc, fn, X, e, g, h => by
    simp only [ck] at h
    split at h
    · rename_i gx x y p
      simp only [Bool.and_eq_true] at h
      obtain ⟨⟨⟨⟨⟨h1, h2⟩, h3⟩, h4⟩, h5⟩, h6⟩ := h
      obtain ⟨q1, rfl, a1, a2, a3⟩ := gn_ok h1
      have s : Sns c X [x, y] [wp Γ a, wp Γ b] := .cons (ck_ok a g h3).ex h4 (.cons (ck_ok b g h5).ex h6 .nil)
      obtain ⟨ws', s'⟩ := s.tail
      have r : ∀ tg, (!true || isTup tg) = true → PI X tg (.Call (.Name (Str.ofString "zip") q1) [x, y] [] p) (iZipG X.K (tDH c 2 (eL [wp Γ a, wp Γ b]))) := fun tg ht => by
        cases tg <;> first | cases ht | skip
        exact pi_zipG (g.gl a1) (g.blt _ h2) s.pa s.head s'.plain
      exact ⟨pe_no fun _ _ _ q => q, fun _ => pt_no fun _ _ _ q => q, fun tg ht => (fi_zip g.K (r tg ht)).1, fun tg ht => (fi_zip g.K (r tg ht)).2⟩
    · cases h
  | .rev a, c, sc, fn, X, e, g, h => by
    simp only [ck] at h
    split at h
    · rename_i gx x p
      simp only [Bool.and_eq_true] at h
      obtain ⟨⟨⟨h1, h2⟩, h3⟩, h4⟩ := h
      obtain ⟨q1, rfl, a1, a2, a3⟩ := gn_ok h1
      have s := ck_ok a g h3
      have r : ∀ tg, PI X tg (.Call (.Name (Str.ofString "reversed") q1) [x] [] p) (iSeqG X.K (ItvA X.K) (tD c (wp Γ a).e)) := fun tg => pi_revG (g.gl a1) (g.blt _ h2) s.ex d_mono (starEach_cons h4)
      exact ⟨pe_no fun _ _ _ q => q, fun _ => pt_no fun _ _ _ q => q, fun tg ht => i_seqG kd_rev g.K (by have := r tg; rw [g.K] at this ⊢; exact this), fun tg ht => f_seqG kd_rev g.K (by have := r tg; rw [g.K] at this ⊢; exact this)⟩
    · cases h
  | .pop i q, c, sc, fn, X, e, g, h => by
    simp only [ck] at h
    split at h
    · rename_i y p0 at_ p1 x p2
      simp only [Bool.and_eq_true, decide_eq_true_eq] at h
      obtain ⟨⟨⟨⟨⟨⟨rfl, h1⟩, h2⟩, h3⟩, h4⟩, h5⟩, h6⟩ := h
      obtain ⟨_, hs⟩ := cko_ok q g h5
      obtain ⟨w, ew, nt, sw⟩ := hs x rfl
      have pm := pe_bm (cpos := p2) (apos := p1) PySem.F.plainAttrs_list PySem.F.slot_list_pop PySem.F.type_list_pop mt_popAt (var_ok (p := p0) g h1 h2 h3) (pa_cons sw.ex pa_nil (starEach_cons h6)) rfl (by simp [starEach_cons h6, backTo, starEach, backToKw, keywordEach]) h4 (starEach_cons h6) rfl
      have := d_pop w.e pm
      refine .val g ?_ rfl
      rw [ew]
      exact this
    · cases h
  | .index a b, c, sc, fn, X, e, g, h => by
    simp only [ck] at h
    split at h
    · rename_i y p0 at_ p1 x p2
      simp only [Bool.and_eq_true, decide_eq_true_eq] at h
      obtain ⟨⟨⟨⟨rfl, h1⟩, h2⟩, h3⟩, h4⟩ := h
      have hu := g.un
      exact .val g (d_index g.K (pe_bm PySem.F.plainAttrs_list PySem.F.slot_list_index PySem.F.type_list_index (mt_indexD (by omega)) (ck_ok a g h1).ex (pa_cons (ck_ok b g h3).ex pa_nil (starEach_cons h4)) rfl (by simp [starEach_cons h4, backTo, starEach, backToKw, keywordEach]) h2 (starEach_cons h4) rfl)) rfl
    · cases h
  | .count _ _, c, sc, fn, X, e, g, h => by
    simp only [ck] at h
    cases h
theorem cks_ok : ∀ (es : List Ex) {c : Cf} {sc : Sc} {fn : Str → Bool} {X : Cx} {xs : List Expr}, Gd T Γ c sc fn X → cks T es sc xs = true → Sns c X xs (wps Γ es)
  | [], c, sc, fn, X, xs, g, h => by
    cases xs with
    | nil => exact .nil
    | cons _ _ => simp only [cks] at h; cases h
  | q :: es, c, sc, fn, X, xs, g, h => by
    cases xs with
    | nil => simp only [cks] at h; cases h
    | cons x xs =>
      simp only [cks, Bool.and_eq_true] at h
      simp only [wps]
      exact .cons (ck_ok q g h.1.1).ex h.1.2 (cks_ok es g h.2)
theorem cko_ok : ∀ (o : Option Ex) {c : Cf} {sc : Sc} {fn : Str → Bool} {X : Cx} {x : Option Expr}, Gd T Γ c sc fn X → cko T o sc x = true → PO X x (tDO c (optI (wpo Γ o))) ∧ ∀ q, x = some q → ∃ w, wpo Γ o = some w ∧ ∃ nt, Sn c X nt q w
  | none, c, sc, fn, X, x, g, h => by
    cases x with
    | none => exact ⟨by simp only [wpo]; exact o_none, fun _ q => by cases q⟩
    | some _ => simp only [cko] at h; cases h
  | some q, c, sc, fn, X, x, g, h => by
    cases x with
    | none => simp only [cko] at h; cases h
    | some x =>
      simp only [cko] at h
      simp only [wpo]
      exact ⟨o_some (ck_ok q g h).ex, fun y e => by cases e; exact ⟨_, rfl, _, ck_ok q g h⟩⟩
end
end
end DL
/-! DL30: the check of statements. -/
namespace DL
open PySem PySem.Spec PyProof.Rows L2
mutual
def ckT (T : Tb) (sc : Sc) (fn : Str → Bool) : Ta → Expr → Bool
  | .name i, e => ckN1 T.N sc fn i e
  | .sub i ix, e => match e with
    | .Subscript (.Name id _) x _ => decide (T.N[i]? = some id) && isVis sc id && okN id && ck T ix sc x && notSlice x
    | _ => false
  | .tup ts, e => match e with
    | .Tuple es _ _ => ckTs T sc fn ts es
    | _ => false
def ckTs (T : Tb) (sc : Sc) (fn : Str → Bool) : List Ta → List Expr → Bool
  | [], [] => true
  | t :: ts, e :: es => ckT T sc fn t e && noStar e && ckTs T sc fn ts es
  | _, _ => false
end
/-- a value for one target: whether it is bound as others are -/
def plainB (sc : Sc) (tg v : Expr) : Bool := match v with
  | .ListComp _ _ scope p => (match tg with
    | .Name y tp => !swB sc y tp scope p
    | _ => true)
  | .SetComp .. => false
  | .DictComp .. => false
  | _ => true
def par2 (N : List Str) (sc : Sc) (ts : List Ta) (tgs : List Expr) (ns : List Str) : Bool := match ts, tgs, ns with
  | [.name i, .name j], [.Name x _, .Name y _], [x', y'] => decide (x = x') && decide (y = y') && !(i == j) && decide (N[i]? = some x) && decide (N[j]? = some y) && decide (sc.lookup x = some .local) && decide (sc.lookup y = some .local)
  | [.name i, .name j, .name l], [.Name x _, .Name y _, .Name z _], [x', y', z'] => decide (x = x') && decide (y = y') && decide (z = z') && !(i == j) && !(i == l) && !(j == l) && decide (N[i]? = some x) && decide (N[j]? = some y) && decide (N[l]? = some z) &&
      decide (sc.lookup x = some .local) && decide (sc.lookup y = some .local) && decide (sc.lookup z = some .local)
  | _, _, _ => false
/-- x.m(..) of a name -/
def meth (N : List Str) (sc : Sc) (i : Nat) (m : Str) : Expr → Option (List Expr)
  | .Call (.Attribute (.Name id _) at_ p1) xs [] p2 => if decide (at_ = m) && decide (N[i]? = some id) && isVis sc id && okN id && (p1.endLine == p2.line) then some xs else none
  | _ => none
mutual
def ckS (T : Tb) (sc : Sc) (fn : Str → Bool) : Sm → Stmt → Bool
  | .asg t q, s => match s with
    | .Assign [tg] v pos => (match plainB sc tg v with
      | true => ckT T sc fn t tg && ck T q sc v && noStar tg && (notSeq tg || notTup v)
      | false => (match t, tg, v with
        | .name i, .Name y _, .ListComp _ [⟨_, _, _, 0⟩] _ _ => decide (T.N[i]? = some y) && ck T q sc v
        | _, _, _ => false))
    | _ => false
  | .par ts es, s => match s with
    | .Assign [.Tuple tgs _ _] (.Tuple vs _ _) pos => cks T es sc vs && decide (es.length ≤ 1000) && decide (ts.length = es.length) && (match swS sc tgs vs with
      | some none => ckTs T sc fn ts tgs
      | some (some ns) => par2 T.N sc ts tgs ns && decide (ns.length = es.length)
      | none => false)
    | _ => false
  | .aug i o q, s => match s with
    | .AugAssign (.Name y _) op v _ => decide (T.N[i]? = some y) && decide (sc.lookup y = some .local) && ck T q sc v && (match o, op with
      | .add, .Add => true
      | .sub, .Sub => true
      | _, _ => false)
    | _ => false
  | .expr q, s => match s with
    | .Expr v _ => ck T q sc v && notComp v
    | _ => false
  | .app i q, s => match s with
    | .Expr v _ => (match meth T.N sc i "append" v with
      | some [x] => ck T q sc x && noStar x
      | _ => false)
    | _ => false
  | .ext i q, s => match s with
    | .Expr v _ => (match meth T.N sc i "extend" v with
      | some [x] => ck T q sc x && noStar x
      | _ => false)
    | _ => false
  | .ins i a b, s => match s with
    | .Expr v _ => (match meth T.N sc i "insert" v with
      | some [x, y] => ck T a sc x && noStar x && ck T b sc y && noStar y
      | _ => false)
    | _ => false
  | .ret q, s => match s with
    | .Return (some v) _ => ck T q sc v
    | _ => false
  | .retN, s => match s with
    | .Return none _ => true
    | _ => false
  | .ite q a b, s => match s with
    | .If t l m _ => ck T q sc t && tst t && ckSs T sc fn a l && ckSs T sc fn b m
    | _ => false
  | .for_ t it b, s => match s with
    | .For tg i l [] _ => ckN T.N sc fn t tg && ck T it sc i && (!needT it || isTup tg) && notSet i && ckSs T sc fn b l
    | _ => false
  | .while_ q b, s => match s with
    | .While t l [] _ => ck T q sc t && tst t && ckSs T sc fn b l
    | _ => false
  | .raise_ _ _, _ => true
  | .brk, s => match s with
    | .Break _ => true
    | _ => false
  | .cont, s => match s with
    | .Continue _ => true
    | _ => false
  | .pass, s => match s with
    | .Pass _ => true
    | _ => false
def ckSs (T : Tb) (sc : Sc) (fn : Str → Bool) : List Sm → List Stmt → Bool
  | [], [] => true
  | q :: qs, s :: ss => ckS T sc fn q s && ckSs T sc fn qs ss
  | _, _ => false
end
end DL
/-! DL31: the check of statements is sound. -/
namespace DL
open PySem PySem.Spec PyProof.Rows L2
section
variable {T : Tb} {Γ : Gam} {c : Cf} {sc : Sc} {fn : Str → Bool} {X : Cx}
theorem assign_sub {o i : Expr} {p : Pos} {env : Env} (h : notSlice i = true) (v : Value) : assign (.Subscript o i p) env v = (do
      let ov ← holding [v] (eval o env)
      let iv ← holding [v, ov] (eval i env)
      standAt p
      holding [v, ov, iv] (setItem ov iv v)
      release [v, ov, iv] []) := by cases i <;> first | rfl | cases h
mutual
theorem ckT_ok (g : Gd T Γ c sc fn X) : ∀ (t : Ta) (e : Expr), ckT T sc fn t e = true → PG X e (gTa c Γ t)
  | .name i, e, h => by
    simp only [ckT] at h
    cases e <;> simp only [ckN1] at h <;> first | cases h | skip
    simp only [gTa]
    exact n1_ok g.N g.nd g.nm g.fn h
  | .sub i ix, e, h => by
    simp only [ckT] at h
    split at h
    · simp only [Bool.and_eq_true, decide_eq_true_eq] at h
      obtain ⟨⟨⟨⟨h1, h2⟩, h3⟩, h4⟩, h5⟩ := h
      simp only [gTa]
      exact pg_sub (var_ok g h1 h2 h3) (ck_ok ix g h4).ex set_list (assign_sub h5)
    · cases h
  | .tup ts, e, h => by
    simp only [ckT] at h
    split at h
    · obtain ⟨i1, i2, i3⟩ := ckTs_ok g ts _ h
      have := pg_tup (k := ‹Nat›) (pos := ‹Pos›) g.calm i1 i2 i3
      simp only [gTa]
      rw [g.K] at this
      exact this
    · cases h
theorem ckTs_ok (g : Gd T Γ c sc fn X) : ∀ (ts : List Ta) (es : List Expr), ckTs T sc fn ts es = true → PGs X es (gTas c Γ ts) ∧ (assignEach es X.env).length = ts.length ∧ (assignEach es X.env).findIdx? (·.1) = none
  | [], es, h => by
    cases es with
    | nil => simp only [gTas]; exact ⟨pgs_nil, rfl, rfl⟩
    | cons _ _ => simp only [ckTs] at h; cases h
  | t :: ts, es, h => by
    cases es with
    | nil => simp only [ckTs] at h; cases h
    | cons e es =>
      simp only [ckTs, Bool.and_eq_true] at h
      obtain ⟨⟨h1, h2⟩, h3⟩ := h
      obtain ⟨i1, i2, i3⟩ := ckTs_ok g ts es h3
      simp only [gTas]
      refine ⟨pgs_cons (ckT_ok g t e h1) i1 (by rw [assign_cons h2]; rfl), ?_, ?_⟩
      · rw [assign_cons h2]; simp [i2]
      · rw [assign_cons h2, List.findIdx?_cons]; simp [i3]
end
theorem plain_ok (g : Gd T Γ c sc fn X) {tg v : Expr} {l : Nat} (h : plainB sc tg v = true) : swapsWithSole [tg] v l X.env = pure false := by
  show swapsWith v (some tg) l X.env = _
  unfold plainB at h
  split at h
  · split at h
    · rw [swaps_lc g]
      simp only [Bool.not_eq_true'] at h
      rw [h]
    · rename_i hn
      refine swaps_other g ?_
      cases tg <;> first | rfl | exact (hn _ _ rfl).elim
  · cases h
  · cases h
  · refine noSwap ?_
    cases v <;> first | rfl | (rename_i hh _ _; exact (hh _ _ _ _ rfl).elim) | (rename_i _ hh _; exact (hh _ _ _ _ rfl).elim) | (rename_i _ _ hh; exact (hh _ _ _ _ _ rfl).elim)
theorem meth_ok (g : Gd T Γ c sc fn X) {i : Nat} {m : Str} {v : Expr} {xs : List Expr} (h : meth T.N sc i m v = some xs) : ∃ id p0 p1 p2, v = .Call (.Attribute (.Name id p0) m p1) xs [] p2 ∧ PE X (.Name id p0) (tVar i) ∧ (p1.endLine == p2.line) = true := by
  unfold meth at h
  split at h
  · rename_i id p0 at_ p1 xs' p2
    split at h
    · rename_i q
      cases h
      simp only [Bool.and_eq_true, decide_eq_true_eq] at q
      obtain ⟨⟨⟨⟨rfl, h1⟩, h2⟩, h3⟩, h4⟩ := q
      exact ⟨id, p0, p1, p2, rfl, var_ok g h1 h2 h3, h4⟩
    · cases h
  · cases h
theorem setLc_ok (g : Gd T Γ c sc fn X) {i : Nat} {elt : Ex} {tg : Tn} {it : Ex} {ifs : Option Ex} {own : List Nat} {y : Str} {py pos : Pos} {v : Expr} (hy : T.N[i]? = some y) (hp : plainB sc (.Name y py) v = false) (h : ck T (.comp elt tg it ifs own) sc v = true) :
    PS X (.Assign [.Name y py] v pos) (tDS c fun E d ρ => (wp Γ (.comp elt tg it ifs own)).e E ρ fun r ρ1 => asn Γ (.name i) r E ρ1 d.nx) := by
  refine s_name ?_
  simp only [ck] at h
  split at h
  · rename_i x t it' fs scope p
    simp only [Bool.and_eq_true] at h
    obtain ⟨⟨⟨⟨⟨⟨⟨h1, h2⟩, h3⟩, h4⟩, h5⟩, h6⟩, h7⟩, h8⟩ := h
    obtain ⟨bo, hk⟩ := blk_ok g h4
    have om : (own.map fun j => (((T.N[j]?).getD (Str.ofString ""), j) : Str × Nat)).map (·.2) = own := by simp [List.map_map, Function.comp_def]
    have hnm : ∀ j ∈ tnNames tg, j ∈ (own.map fun j => (((T.N[j]?).getD (Str.ofString ""), j) : Str × Nat)).map (·.2) := fun j hj => by
      rw [om]
      exact List.contains_iff_mem.mp (List.all_eq_true.mp h6 j hj)
    have gb := fun s H C cl fp => g.blk s H scope hk C cl fp
    have test : ∀ s H C cl fp, PTs (X.blk s H scope (compEnvC scope cl C X.env) fp) fs (tDT c.quiet (match wpo Γ ifs with
        | none => fun _ ρ Q => Q true ρ
        | some w => w.t)) := fun s H C cl fp => by
      split at h7
      · split at h7
        · simp only [wpo]
          exact ⟨fun pins s σ H Q I ⟨F, ρ, E, Qd, rp, hw, xc, k⟩ => pts_nil.run pins s σ H Q I (k _ _ _ Nx.refl rp hw)⟩
        · cases h7
      · rename_i q
        simp only [Bool.and_eq_true] at h7
        obtain ⟨ho, hs⟩ := cko_ok ifs (gb s H C cl fp) h7.1
        obtain ⟨w, ew, nt, sw⟩ := hs q rfl
        rw [ew]
        exact pts_one (sw.t h7.2)
      · cases h7
    simp only [plainB, Bool.not_eq_false'] at hp
    have hl : sc.lookup y = some .local := by
      simp only [swB, Bool.and_eq_true, decide_eq_true_eq] at hp
      exact hp.1.1
    have := ps_setLc (i := i) (y := y) (py := py) (spos := pos) (elt := x) (pos := p) (ifs := fs) g.calm (by rw [g.N]; exact g.nd) (by rw [g.N]; exact hy) (by rw [g.nm]; exact hl) (by rw [swaps_lc g, hp]) ((ck_ok it g h1).i t h3) bo
      (fun s H C cl fp => n_ok (gb s H C cl fp).N g.nd (gb s H C cl fp).nm (gb s H C cl fp).fn g.calm g.K tg t h5)
      test (fun s H C cl fp => (ck_ok elt (gb s H C cl fp) h8).ex) (folded h2)
    refine this.imp fun D σ H q => ?_
    have q' := comp_imp hnm σ H _ (by rw [om]; exact q)
    exact q'
  · cases h
end
end DL
/-! DL32: the check of statements is sound. -/
namespace DL
open PySem PySem.Spec PyProof.Rows L2
section
variable {T : Tb} {Γ : Gam} {c : Cf} {sc : Sc} {fn : Str → Bool} {X : Cx}
theorem par_ok (g : Gd T Γ c sc fn X) {ts : List Ta} {tgs vs : List Expr} {ns : List Str} {ws : List W4} {k k2 : Nat} {p p2 pos : Pos} (h : par2 T.N sc ts tgs ns = true) (hn : ns.length = ws.length) (hsw : swS sc tgs vs = some (some ns)) (hs : Sns c X vs ws) :
    PS X (.Assign [.Tuple tgs k p] (.Tuple vs k2 p2) pos) (tDS c fun E d ρ => eL ws E ρ fun rs ρ1 => settle rs ρ1 fun rs' ρ2 => asns Γ ts rs' E ρ2 d.nx) := by
  have hN : X.N.Nodup := by rw [g.N]; exact g.nd
  unfold par2 at h
  split at h
  · rename_i i j x px y py x' y'
    simp only [Bool.and_eq_true, decide_eq_true_eq, Bool.not_eq_true', beq_eq_false_iff_ne] at h
    obtain ⟨⟨⟨⟨⟨⟨rfl, rfl⟩, h3⟩, h4⟩, h5⟩, h6⟩, h7⟩ := h
    have hp := hs.pa
    simp only [List.length_cons, List.length_nil] at hn
    rw [← hn] at hp
    have hv := hs.len
    rw [← hn] at hv
    match vs, hv with
    | [a, b], _ => exact s_par2 (kt := k) (k2 := k2) g.calm hN (by rw [g.N]; exact h4) (by rw [g.N]; exact h5) h3 (by rw [g.nm]; exact h6) (by rw [g.nm]; exact h7) hp (swaps_tup g hsw)
  · rename_i i j l x px y py z pz x' y' z'
    simp only [Bool.and_eq_true, decide_eq_true_eq, Bool.not_eq_true', beq_eq_false_iff_ne] at h
    obtain ⟨⟨⟨⟨⟨⟨⟨⟨⟨⟨⟨rfl, rfl⟩, rfl⟩, h1⟩, h2⟩, h3⟩, h4⟩, h5⟩, h6⟩, h7⟩, h8⟩, h9⟩ := h
    have hp := hs.pa
    simp only [List.length_cons, List.length_nil] at hn
    rw [← hn] at hp
    have hv := hs.len
    rw [← hn] at hv
    match vs, hv with
    | [a, b, d], _ => exact s_par3 (kt := k) (k2 := k2) g.calm hN (by rw [g.N]; exact h4) (by rw [g.N]; exact h5) (by rw [g.N]; exact h6) h1 h2 h3 (by rw [g.nm]; exact h7) (by rw [g.nm]; exact h8) (by rw [g.nm]; exact h9) hp (swaps_tup g hsw)
  · cases h
theorem few (h : ∀ e, e ∈ ([] : List Expr) → True) {x : Expr} {es : List Expr} {ws : List W4} {p2 : Pos} (hs : Sns c X (x :: es) ws) (hl : ws.length < 30) : ((backTo p2 (starEach (x :: es) X.env)).all (fun x => !x.1) && (backToKw p2 (keywordEach [] X.env)).all (fun x => x.1.isSome)
      && decide ((x :: es).length + ([] : List Keyword).length + (if ([] : List Keyword).isEmpty then 0 else 1) < 30)) = true := by
  have h1 : (backTo p2 (starEach (x :: es) X.env)).all (fun x => !x.1) = true := by
    have := hs.plain (pos := p2)
    rw [List.any_eq_false] at this
    rw [List.all_eq_true]
    intro y hy
    have := this y hy
    simpa using this
  rw [h1]
  have h2 : decide ((x :: es).length + ([] : List Keyword).length + (if ([] : List Keyword).isEmpty then 0 else 1) < 30) = true := by
    have := hs.len
    rw [decide_eq_true_eq]
    simp at this ⊢
    omega
  rw [h2]
  rfl
mutual
theorem ckS_ok (g : Gd T Γ c sc fn X) : ∀ (q : Sm) (s : Stmt), ckS T sc fn q s = true → PS X s (tDS c (wpS Γ q))
  | .asg t q, s, h => by
    simp only [ckS] at h
    split at h
    · rename_i tg v pos
      cases hp : plainB sc tg v with
      | true =>
        rw [hp] at h
        simp only [Bool.and_eq_true, Bool.or_eq_true] at h
        obtain ⟨⟨⟨h1, h2⟩, h3⟩, h4⟩ := h
        simp only [wpS]
        exact s_asg (ck_ok q g h2).ex (ckT_ok g t tg h1) (plain_ok g hp) (h4.elim (fun z => noSwapS' z) fun z => noSwapS z) (assign_one h3)
      | false =>
        rw [hp] at h
        dsimp only at h
        split at h
        · rename_i i y py elt t' it' fs scope p
          simp only [Bool.and_eq_true, decide_eq_true_eq] at h
          obtain ⟨h1, h2⟩ := h
          cases q <;> first | (exact setLc_ok g h1 hp h2) | (exfalso; simp only [ck] at h2; first | cases h2 | (revert h2; simp [litB, gName?]) | (split at h2 <;> first | contradiction | cases h2))
        · cases h
    · cases h
  | .par ts es, s, h => by
    simp only [ckS] at h
    split at h
    · rename_i tgs k p vs k2 p2 pos
      simp only [Bool.and_eq_true, decide_eq_true_eq] at h
      obtain ⟨⟨⟨h1, h2⟩, h3⟩, h4⟩ := h
      have hs := cks_ok (Γ := Γ) es g h1
      simp only [wpS]
      split at h4
      · rename_i e
        obtain ⟨i1, i2, i3⟩ := ckTs_ok (Γ := Γ) g ts _ h4
        have hp := hs.pa
        rw [len_wps] at hp
        exact s_parT g.calm h2 hp i1 (by rw [i2, h3]) i3 (swaps_tup g e) (show swapsWith (.Tuple vs k2 p2) (some (.Tuple tgs k p)) pos.line X.env = pure false from noSwap rfl) rfl g.K
      · rename_i ns e
        simp only [Bool.and_eq_true, decide_eq_true_eq] at h4
        exact par_ok g h4.1 (by rw [len_wps]; exact h4.2) e hs
      · cases h4
    · cases h
  | .aug i o q, s, h => by
    simp only [ckS] at h
    split at h
    · rename_i y p op v pos
      simp only [Bool.and_eq_true, decide_eq_true_eq] at h
      obtain ⟨⟨⟨h1, h2⟩, h3⟩, h4⟩ := h
      have hN : X.N.Nodup := by rw [g.N]; exact g.nd
      have hl : X.env.scope.names.lookup y = some .local := by rw [g.nm]; exact h2
      split at h4
      · simp only [wpS]
        exact s_aug_add hN (by rw [g.N]; exact h1) (.inl hl) (ck_ok q g h3).ex (.inr hl)
      · simp only [wpS]
        exact s_aug_sub hN (by rw [g.N]; exact h1) (.inl hl) (ck_ok q g h3).ex (.inr hl)
      · cases h4
    · cases h
  | .expr q, s, h => by
    simp only [ckS] at h
    split at h
    · simp only [Bool.and_eq_true] at h
      simp only [wpS]
      exact s_expr (ck_ok q g h.1).ex (noSwap h.2)
    · cases h
  | .app i q, s, h => by
    simp only [ckS] at h
    split at h
    · rename_i v pos
      split at h
      · rename_i x em
        simp only [Bool.and_eq_true] at h
        obtain ⟨id, p0, p1, p2, rfl, hv, hline⟩ := meth_ok g em
        have hs : Sns c X [x] [wp Γ q] := .cons (ck_ok q g h.1).ex h.2 .nil
        simp only [wpS]
        refine s_app (ps_expr (pe_bm PySem.F.plainAttrs_list PySem.F.slot_list_append PySem.F.type_list_append mt_append hv (pa_cons (ck_ok q g h.1).ex pa_nil (starEach_cons h.2)) rfl (few (fun _ _ => trivial) hs (by simp)) hline hs.head rfl) rfl)
      · cases h
    · cases h
  | .ext i q, s, h => by
    simp only [ckS] at h
    split at h
    · rename_i v pos
      split at h
      · rename_i x em
        simp only [Bool.and_eq_true] at h
        obtain ⟨id, p0, p1, p2, rfl, hv, hline⟩ := meth_ok g em
        have hs : Sns c X [x] [wp Γ q] := .cons (ck_ok q g h.1).ex h.2 .nil
        simp only [wpS]
        refine s_ext (ps_expr (pe_bm PySem.F.plainAttrs_list PySem.F.slot_list_extend PySem.F.type_list_extend mt_extend hv (pa_cons (ck_ok q g h.1).ex pa_nil (starEach_cons h.2)) rfl (few (fun _ _ => trivial) hs (by simp)) hline hs.head rfl) rfl)
      · cases h
    · cases h
  | .ins i a b, s, h => by
    simp only [ckS] at h
    split at h
    · rename_i v pos
      split at h
      · rename_i x y em
        simp only [Bool.and_eq_true] at h
        obtain ⟨⟨⟨h1, h2⟩, h3⟩, h4⟩ := h
        obtain ⟨id, p0, p1, p2, rfl, hv, hline⟩ := meth_ok g em
        have hs : Sns c X [x, y] [wp Γ a, wp Γ b] := .cons (ck_ok a g h1).ex h2 (.cons (ck_ok b g h3).ex h4 .nil)
        simp only [wpS]
        refine s_ins (ps_expr (pe_bm PySem.F.plainAttrs_list PySem.F.slot_list_insert PySem.F.type_list_insert mt_insert hv (pa_cons (ck_ok a g h1).ex (pa_cons (ck_ok b g h3).ex pa_nil (starEach_cons h4)) (starEach_cons h2)) rfl (few (fun _ _ => trivial) hs (by simp)) hline hs.head (hs.tail.choose_spec.plain)) rfl)
      · cases h
    · cases h
  | .ret q, s, h => by
    simp only [ckS] at h
    split at h
    · simp only [wpS]; exact s_ret (ck_ok q g h).ex
    · cases h
  | .retN, s, h => by
    simp only [ckS] at h
    split at h
    · simp only [wpS]; exact s_retN
    · cases h
  | .ite q a b, s, h => by
    simp only [ckS] at h
    split at h
    · simp only [Bool.and_eq_true] at h
      obtain ⟨⟨⟨h1, h2⟩, h3⟩, h4⟩ := h
      simp only [wpS]
      exact s_ite ((ck_ok q g h1).t h2) (ckSs_ok g a _ h3) (ckSs_ok g b _ h4)
    · cases h
  | .for_ t it b, s, h => by
    simp only [ckS] at h
    split at h
    · simp only [Bool.and_eq_true] at h
      obtain ⟨⟨⟨⟨h1, h2⟩, h3⟩, h4⟩, h5⟩ := h
      simp only [wpS]
      exact s_for g.own g.calm ((ck_ok it g h2).f _ h3) (n_ok g.N g.nd g.nm g.fn g.calm g.K t _ h1) (ckSs_ok g b _ h5) (folded h4)
    · cases h
  | .while_ q b, s, h => by
    simp only [ckS] at h
    split at h
    · simp only [Bool.and_eq_true] at h
      obtain ⟨⟨h1, h2⟩, h3⟩ := h
      simp only [wpS]
      exact s_while g.own ((ck_ok q g h1).t h2) (ckSs_ok g b _ h3)
    · cases h
  | .raise_ _ _, s, h => by
    simp only [wpS]
    exact s_never
  | .brk, s, h => by
    simp only [ckS] at h
    split at h
    · simp only [wpS]; exact s_brk
    · cases h
  | .cont, s, h => by
    simp only [ckS] at h
    split at h
    · simp only [wpS]; exact s_cont
    · cases h
  | .pass, s, h => by
    simp only [ckS] at h
    split at h
    · simp only [wpS]; exact s_pass
    · cases h
theorem ckSs_ok (g : Gd T Γ c sc fn X) : ∀ (qs : List Sm) (ss : List Stmt), ckSs T sc fn qs ss = true → PSs X ss (tDS c (wpSs Γ qs))
  | [], ss, h => by
    cases ss with
    | nil => simp only [wpSs]; exact s_nil
    | cons _ _ => simp only [ckSs] at h; cases h
  | q :: qs, ss, h => by
    cases ss with
    | nil => simp only [ckSs] at h; cases h
    | cons s ss =>
      simp only [ckSs, Bool.and_eq_true] at h
      simp only [wpSs]
      exact s_cons (ckS_ok g q s h.1) (ckSs_ok g qs ss h.2)
end
end
end DL
/-! DL33: a text of defs: all promises at once, by how deep calls may go. -/
namespace DL
open PySem PySem.Spec PyProof.Rows L2
/-- a def in the small syntax: its parameters, all its names (the parameters first), its body -/
structure FDef where
  name : String
  pars : List Str
  N : List Str
  body : List Sm
/-- what the defs promise where calls may go k deep -/
def gam (P : List FDef) : Nat → Gam
  | 0 => fun _ _ _ _ => False
  | k + 1 => fun f => match P.find? (fun d => d.name == f) with
    | some d => wpF (gam P k) d.pars.length d.N.length d.body
    | none => fun _ _ _ => False
/-- what is known beside the defs -/
structure Kn where
  con : List (String × D)
  blt : List String
def tb (P : List FDef) (n : Kn) (d : FDef) : Tb := ⟨d.N, P.map fun d => (d.name, d.pars.length), P.map fun d => (d.name, d.pars), n.con, n.blt⟩
/-- the check of one def against its statement -/
def ckF (P : List FDef) (n : Kn) (d : FDef) (st : Stmt) : Bool := C8.scC d.N d.pars (C8.fnScope st) && ckSs (tb P n d) (C8.fnScope st).names (fun _ => true) d.body (C8.fnBody st)
/-- a def as it stands behind the top -/
structure Fact (K : PySem.W.Frag) (name : String) (st : Stmt) : Prop where
  ex : ∃ (f : Addr) (oc : Value) (od : Option Addr) (kV doc pm : Value) (an : Option Addr) (cdv ct : Value) (osl : Array (Option Value)), PySem.W.nsIn K mainGlobals (Str.ofString name) = some (some (.ref f)) ∧
    K.lookup f = some ⟨oc, od, .func (PySem.W.fnOf (Str.ofString name) (Str.ofString name) (C8.fnArgs st) (C8.fnBody st) (C8.fnScope st) .none kV doc pm an cdv ct), osl⟩ ∧ PySem.W.codeIn K cdv (Str.ofString name) = true ∧ PySem.W.keepIn K (.ref f) = true
theorem Fact.of {K : PySem.W.Frag} {name : String} {st : Stmt} {f : Addr} {oc : Value} {od an : Option Addr} {kV doc pm cdv ct : Value} {osl : Array (Option Value)} (a : PySem.W.nsIn K mainGlobals (Str.ofString name) = some (some (.ref f)))
    (l : K.lookup f = some ⟨oc, od, .func (PySem.W.fnOf (Str.ofString name) (Str.ofString name) (C8.fnArgs st) (C8.fnBody st) (C8.fnScope st) .none kV doc pm an cdv ct), osl⟩) (c : PySem.W.codeIn K cdv (Str.ofString name) = true) (k : PySem.W.keepIn K (.ref f) = true) : Fact K name st :=
  ⟨f, oc, od, kV, doc, pm, an, cdv, ct, osl, a, l, c, k⟩
/-- how its parameters are bound -/
structure Bnd (name : String) (ps : List Str) (st : Stmt) : Prop where
  pos : ∀ (kV doc pm : Value) (an : Option Addr) (cdv ct : Value) (us : List Value), us.length = ps.length → bindArgs (PySem.W.fnOf (Str.ofString name) (Str.ofString name) (C8.fnArgs st) (C8.fnBody st) (C8.fnScope st) .none kV doc pm an cdv ct) ⟨us, []⟩ = pure (ps.zip us)
  key : ∀ (kV doc pm : Value) (an : Option Addr) (cdv ct : Value) (us : List Value), us.length = ps.length → bindArgs (PySem.W.fnOf (Str.ofString name) (Str.ofString name) (C8.fnArgs st) (C8.fnBody st) (C8.fnScope st) .none kV doc pm an cdv ct) ⟨[], ps.zip us⟩ = pure (ps.zip us)
/-- the text as it stands behind the top -/
structure Txt (P : List FDef) (n : Kn) (K : PySem.W.Frag) (mg : Str → Option Value) : Prop where
  nd : (P.map (·.name)).Nodup
  fn : ∀ d ∈ P, ∃ st, Fact K d.name st ∧ Bnd d.name d.pars st ∧ ckF P n d st = true
  con : ∀ x d, n.con.lookup x = some d → ∃ u v, mg (Str.ofString x) = some u ∧ RelV v u ∧ ∀ H bad, DV K H bad v d
  blt : ∀ x, n.blt.contains x = true → mg (Str.ofString x) = none
  gcd : n.blt.contains "math.gcd" = true → mg (Str.ofString "gcd") = some (.builtin "math.gcd")
def ConOk (K : PySem.W.Frag) (mg : Str → Option Value) (l : List (String × D)) : Prop := ∀ x d, l.lookup x = some d → ∃ u v, mg (Str.ofString x) = some u ∧ RelV v u ∧ ∀ H bad, DV K H bad v d
theorem ConOk.nil {K : PySem.W.Frag} {mg : Str → Option Value} : ConOk K mg [] := fun _ _ h => by cases h
theorem ConOk.cons {K : PySem.W.Frag} {mg : Str → Option Value} {l : List (String × D)} {x : String} {d : D} {u : Value} (hu : mg (Str.ofString x) = some u) (h0 : ∃ v, RelV v u ∧ ∀ H bad, DV K H bad v d) (h : ConOk K mg l) : ConOk K mg ((x, d) :: l) := fun y e he => by
  rw [List.lookup_cons] at he
  cases q : y == x with
  | true =>
    rw [q] at he
    cases he
    obtain rfl := beq_iff_eq.mp q
    obtain ⟨v, h1, h2⟩ := h0
    exact ⟨u, v, hu, h1, h2⟩
  | false =>
    rw [q] at he
    exact h y e he
theorem con_int {K : PySem.W.Frag} {i : Int} {t : Tok} : ∃ v, RelV v (.int i t) ∧ ∀ H bad, DV K H bad v (.int i) := ⟨.int i, ⟨t, rfl⟩, fun _ _ => .int i⟩
theorem con_tup2 {K : PySem.W.Frag} {a : Addr} {i j : Int} {t u : Tok} {dd : Option Addr} {n : Nat} {sl : Array (Option Value)} (l : K.lookup a = some ⟨.type "tuple", dd, .seq #[.int i t, .int j u] n, sl⟩) : ∃ v, RelV v (.ref a) ∧ ∀ H bad, DV K H bad v (.tuple [.int i, .int j]) :=
  ⟨.ref a, rfl, fun _ _ => .tup (xs := [.int i, .int j]) (.inr ⟨_, _, n, l, rfl, rfl, (by show 2 ≤ sizeLine; decide), .cons ⟨t, rfl⟩ (.cons ⟨u, rfl⟩ .nil)⟩) (.cons (.int i) (.cons (.int j) .nil))⟩
def BltOk (mg : Str → Option Value) (l : List String) : Prop := ∀ x, l.contains x = true → mg (Str.ofString x) = none
theorem BltOk.nil {mg : Str → Option Value} : BltOk mg [] := fun _ h => by simp at h
theorem BltOk.cons {mg : Str → Option Value} {l : List String} {x : String} (h0 : mg (Str.ofString x) = none) (h : BltOk mg l) : BltOk mg (x :: l) := fun y hy => by
  rw [List.contains_cons, Bool.or_eq_true] at hy
  rcases hy with hy | hy
  · obtain rfl := beq_iff_eq.mp hy; exact h0
  · exact h y hy
theorem find_name : ∀ {P : List FDef}, (P.map (·.name)).Nodup → ∀ {d : FDef}, d ∈ P → P.find? (fun e => e.name == d.name) = some d
  | [], _, _, h => by cases h
  | e :: P, nd, d, h => by
    simp only [List.map_cons, List.nodup_cons] at nd
    rw [List.find?_cons]
    rcases List.mem_cons.mp h with rfl | h
    · simp
    · have : (e.name == d.name) = false := beq_eq_false_iff_ne.mpr fun q => nd.1 (by rw [q]; exact List.mem_map_of_mem h)
      rw [this]
      exact find_name nd.2 h
theorem lookup_fns : ∀ {P : List FDef} {f : String} {n : Nat}, (P.map fun d => (d.name, d.pars.length)).lookup f = some n → ∃ d ∈ P, d.name = f ∧ d.pars.length = n ∧ (P.map fun d => (d.name, d.pars)).lookup f = some d.pars
  | [], _, _, h => by cases h
  | e :: P, f, n, h => by
    simp only [List.map_cons, List.lookup_cons] at h ⊢
    cases q : f == e.name with
    | true =>
      rw [q] at h
      cases h
      exact ⟨e, List.mem_cons_self, (beq_iff_eq.mp q).symm, rfl, rfl⟩
    | false =>
      rw [q] at h
      obtain ⟨d, h1, h2, h3, h4⟩ := lookup_fns h
      exact ⟨d, List.mem_cons_of_mem _ h1, h2, h3, h4⟩
section
variable {P : List FDef} {n : Kn} {Pg : Program} {w : World} {K : PySem.W.Frag} {mg : Str → Option Value} {base h : Heap} {xt : Str → Option (Addr × Str)}
/-- all defs keep their promises -/
theorem txt_ok (X : K.In h) (G : h.Ns mainGlobals mg) (t : Txt P n K mg) : ∀ k, ∀ d ∈ P, ∃ (st : Stmt) (f : Addr) (oc : Value) (od : Option Addr) (kV doc pm : Value) (an : Option Addr) (cdv ct : Value) (osl : Array (Option Value)), PySem.W.nsIn K mainGlobals (Str.ofString d.name) = some (some (.ref f)) ∧
    K.lookup f = some ⟨oc, od, .func (PySem.W.fnOf (Str.ofString d.name) (Str.ofString d.name) (C8.fnArgs st) (C8.fnBody st) (C8.fnScope st) .none kV doc pm an cdv ct), osl⟩ ∧ PySem.W.keepIn K (.ref f) = true ∧ Bnd d.name d.pars st ∧
    FnG Pg w K mg base C8.CX0 k f (PySem.W.fnOf (Str.ofString d.name) (Str.ofString d.name) (C8.fnArgs st) (C8.fnBody st) (C8.fnScope st) .none kV doc pm an cdv ct) d.pars (hs K xt d.pars.length (gam P k d.name)) := by
  intro k
  induction k with
  | zero =>
    intro d hd
    obtain ⟨st, ⟨f, oc, od, kV, doc, pm, an, cdv, ct, osl, a, l, c, kp⟩, b, _⟩ := t.fn d hd
    have no : ∀ vs H Q E, ¬ hs K xt d.pars.length (gam P 0 d.name) vs H Q E := fun vs H Q E ⟨_, _, _, _, _, _, z, _⟩ => z.elim
    exact ⟨st, f, oc, od, kV, doc, pm, an, cdv, ct, osl, a, l, kp, b, ⟨fun vs H Q E z => (no _ _ _ _ z).elim, fun _ _ _ _ _ _ _ _ _ _ _ _ _ _ z => (no _ _ _ _ z).elim⟩⟩
  | succ k ih =>
    intro d hd
    obtain ⟨st, ⟨f, oc, od, kV, doc, pm, an, cdv, ct, osl, a, l, c, kp⟩, b, ck⟩ := t.fn d hd
    refine ⟨st, f, oc, od, kV, doc, pm, an, cdv, ct, osl, a, l, kp, b, ?_⟩
    simp only [ckF, Bool.and_eq_true] at ck
    have S := C8.fnScope_by ck.1
    have F : C8.Fun K (Str.ofString d.name) (Str.ofString d.name) st f _ := ⟨oc, od, .none, kV, doc, pm, an, cdv, ct, osl, rfl, l, c⟩
    have e : gam P (k + 1) d.name = wpF (gam P k) d.pars.length d.N.length d.body := by
      simp only [gam, find_name t.nd hd]
    rw [e]
    refine fn_rule F S rfl fun cdv' A outer s H vs E hg hr => ?_
    have g : Gd (tb P n d) (gam P k) ⟨K, xt, IOof vs, E⟩ (C8.fnScope st).names (fun _ => true) (cxOf C8.CX0 Pg w K mg base d.N (Str.ofString d.name) (C8.fnScope st) f cdv' A outer s H E).nox := by
      refine ⟨rfl, S.kind, rfl, S.nd, rfl, rfl, fun _ _ => rfl, hg, by have := hr.un; show (A.deeper _).units + 100 < _; omega, PassesOwn.never, fun f' m hm => ?_, t.con, t.blt, t.gcd⟩
      obtain ⟨d', h1, rfl, rfl, h4⟩ := lookup_fns hm
      obtain ⟨st', f', oc', od', kV', doc', pm', an', cdv'', ct', osl', a', l', kp', b', F'⟩ := ih d' h1
      refine ⟨C8.CX0, k, f', _, d'.pars, F', hr, PySem.W.mg_of X G a', kp', .all (b'.pos kV' doc' pm' an' cdv'' ct'), rfl, C8.pass0, fun qs hq => ?_, fun _ _ _ _ _ z => z⟩
      have hq : (P.map fun d => (d.name, d.pars)).lookup d'.name = some qs := hq
      rw [h4] at hq
      cases hq
      exact ⟨rfl, fun s us _ hl => .of_eq (b'.key kV' doc' pm' an' cdv'' ct' us hl)⟩
    exact (ckSs_ok g d.body _ ck.2).nox
/-- the law of a text -/
theorem txt_law {nm : String} {k : Nat} {fa : Addr} {x : Str} (X : K.In h) (G : h.Ns mainGlobals mg) (t : Txt P n K mg) {d : FDef} (hd : d ∈ P) (hn : d.name = nm) (hp : d.pars = [x]) (hfa : mg (Str.ofString nm) = some (.ref fa)) :
    ∃ fd : FuncData, (∀ (s : Shared) (u : Value), BindsTo s fd ⟨[u], []⟩ [(x, u)]) ∧
      ∀ base : Heap, K.In base → base.Ns mainGlobals mg → FnG Pg w K mg base C8.CX0 k fa fd [x] (hs K xt 1 (gam P k nm)) := by
  subst hn
  obtain ⟨st, ⟨f, oc, od, kV, doc, pm, an, cdv, ct, osl, a, l, c, kp⟩, b, ck⟩ := t.fn d hd
  have e := hfa.symm.trans (PySem.W.mg_of X G a)
  cases e
  refine ⟨PySem.W.fnOf (Str.ofString d.name) (Str.ofString d.name) (C8.fnArgs st) (C8.fnBody st) (C8.fnScope st) .none kV doc pm an cdv ct, fun s u => .of_eq ?_, fun base _ _ => ?_⟩
  · have := b.pos kV doc pm an cdv ct [u] (by rw [hp]; rfl)
    rw [hp] at this
    exact this
  · obtain ⟨st', f', oc', od', kV', doc', pm', an', cdv', ct', osl', a', l', kp', b', F'⟩ := txt_ok (Pg := Pg) (w := w) (base := base) (xt := xt) X G t k d hd
    have ef := a.symm.trans a'
    cases ef
    have el := l.symm.trans l'
    simp only [Option.some.injEq, Obj.mk.injEq, Data.func.injEq] at el
    rw [hp] at F'
    rw [el.2.2.1]
    exact F'
end
end DL
/-! DL34: stepping through what a def means. -/
namespace DL
open PySem PySem.Spec PyProof.Rows L2
theorem gam_at {P : List FDef} (nd : (P.map (·.name)).Nodup) {d : FDef} (h : d ∈ P) (k : Nat) : gam P (k + 1) d.name = wpF (gam P k) d.pars.length d.N.length d.body := by
  simp only [gam, find_name nd h]
theorem intBits_le {i : Int} {m : Nat} (h : i.natAbs < 2 ^ m) : Builtin.Int.intBits i ≤ m := by
  unfold Builtin.Int.intBits
  split
  · exact Nat.zero_le _
  · rename_i q
    have h0 : i.natAbs ≠ 0 := by
      intro z
      apply q
      rw [beq_iff_eq]
      omega
    have := (Nat.log2_lt h0).mpr h
    omega
theorem mulOk {i j : Int} (m n : Nat) (hi : i.natAbs < 2 ^ m) (hj : j.natAbs < 2 ^ n) (h : m + n ≤ 134217728) : MulOk i j := by
  unfold MulOk
  have := intBits_le hi
  have := intBits_le hj
  omega
theorem divOk {j : Int} (h : 0 < j) (h2 : j < 1000000000000) : DivOk j := by
  refine ⟨h, ?_⟩
  have h0 : j.natAbs ≠ 0 := by omega
  have : j.natAbs.log2 < 40 := (Nat.log2_lt h0).mpr (by omega)
  omega
namespace R
variable {Γ : Gam} {E : Xn → Prop} {ρ : Rho} {Q : Rs → Rho → Prop} {T : Bool → Rho → Prop} {k : D → Rho → Prop}
theorem lit {d : D} (h : Q (.dat d) ρ) : (wp Γ (.lit d)).e E ρ Q := by simp only [wp, W4.of]; exact h
theorem con {x : String} {d : D} (h : Q (.dat d) ρ) : (wp Γ (.con x d)).e E ρ Q := by simp only [wp, W4.of]; exact h
theorem var {i : Nat} {d : D} (g : gt ρ i = some (.dat d)) (h : Q (.dat d) ρ) : (wp Γ (.var i)).e E ρ Q := by simp only [wp, W4.of, g]; exact h
theorem varO {i : Nat} {b : Bool} {xs : List D} (g : gt ρ i = some (.own b xs)) (h : Q (.ref i) ρ) : (wp Γ (.var i)).e E ρ Q := by simp only [wp, W4.of, g]; exact h
theorem op2 {o : O2} {a b : Ex} (h : (wp Γ a).e E ρ fun r ρ1 => (wp Γ b).e E ρ1 fun s ρ2 => with2 ρ2 r s fun x y => op2D o x y fun z => Q z ρ2) : (wp Γ (.op2 o a b)).e E ρ Q := by simp only [wp, W4.of]; exact h
theorem repL {es : List Ex} {n : Ex} (h : eL (wps Γ es) E ρ fun rs ρ1 => escs rs ρ1 fun ds ρ2 => (wp Γ n).e E ρ2 fun r ρ3 => match r with
    | .dat (.int j) => (-(2 ^ 63) ≤ j ∧ j < 2 ^ 63 ∧ LenOk (ds.length * j.toNat)) ∧ Q (.own (List.replicate j.toNat ds).flatten) ρ3
    | _ => False) : (wp Γ (.repL es n)).e E ρ Q := by simp only [wp, W4.of]; exact h
theorem cmp {o : C2} {a b : Ex} (h : (wp Γ a).e E ρ fun r ρ1 => (wp Γ b).e E ρ1 fun s ρ2 => with2 ρ2 r s fun x y => cmpD o x y fun z => Q (.dat (.bool z)) ρ2) : (wp Γ (.cmp o a b)).e E ρ Q := by simp only [wp, W4.of]; exact h
theorem isN {a : Ex} (h : (wp Γ a).e E ρ fun r ρ1 => with1 ρ1 r fun x => Q (.dat (.bool (isNone x))) ρ1) : (wp Γ (.isN a)).e E ρ Q := by simp only [wp, W4.of]; exact h
theorem notN {a : Ex} (h : (wp Γ a).e E ρ fun r ρ1 => with1 ρ1 r fun x => Q (.dat (.bool (!isNone x))) ρ1) : (wp Γ (.notN a)).e E ρ Q := by simp only [wp, W4.of]; exact h
theorem chain {o o' : C2} {a b c : Ex} (h : (wp Γ a).e E ρ fun r ρ1 => (wp Γ b).e E ρ1 fun s ρ2 => with2 ρ2 r s fun x y => cmpD o x y fun z =>
      if z = true then (wp Γ c).e E ρ2 fun t ρ3 => with2 ρ3 s t fun y' u => cmpD o' y' u fun q => Q (.dat (.bool q)) ρ3
      else Q (.dat (.bool false)) ρ2) : (wp Γ (.chain o o' a b c)).e E ρ Q := by simp only [wp, W4.of]; exact h
theorem neg {a : Ex} (h : (wp Γ a).e E ρ fun r ρ1 => match r with
    | .dat (.int i) => Q (.dat (.int (-i))) ρ1
    | _ => False) : (wp Γ (.neg a)).e E ρ Q := by simp only [wp, W4.of]; exact h
theorem not {a : Ex} (h : (wp Γ a).e E ρ fun r ρ1 => match r with
      | .dat (.bool b) => Q (.dat (.bool (!b))) ρ1
      | _ => False) : (wp Γ (.not a)).e E ρ Q := by simp only [wp]; exact h
theorem tnot {a : Ex} (h : (wp Γ a).t E ρ fun b ρ1 => T (!b) ρ1) : (wp Γ (.not a)).t E ρ T := by simp only [wp]; exact h
theorem and {a b : Ex} (h : (wp Γ a).e E ρ fun r ρ1 => match r with
      | .dat (.bool c) => if c = true then (wp Γ b).e E ρ1 Q else Q (.dat (.bool false)) ρ1
      | _ => False) : (wp Γ (.and a b)).e E ρ Q := by simp only [wp]; exact h
theorem tand {a b : Ex} (h : (wp Γ a).t E ρ fun c ρ1 => if c = true then (wp Γ b).t E ρ1 T else T false ρ1) : (wp Γ (.and a b)).t E ρ T := by simp only [wp]; exact h
theorem or {a b : Ex} (h : (wp Γ a).e E ρ fun r ρ1 => match r with
      | .dat (.bool c) => if c = true then Q (.dat (.bool true)) ρ1 else (wp Γ b).e E ρ1 Q
      | _ => False) : (wp Γ (.or a b)).e E ρ Q := by simp only [wp]; exact h
theorem tor {a b : Ex} (h : (wp Γ a).t E ρ fun c ρ1 => if c = true then T true ρ1 else (wp Γ b).t E ρ1 T) : (wp Γ (.or a b)).t E ρ T := by simp only [wp]; exact h
theorem tcmp {o : C2} {a b : Ex} (h : (wp Γ (.cmp o a b)).e E ρ fun r ρ1 => match r with
    | .dat (.bool b) => T b ρ1
    | _ => False) : (wp Γ (.cmp o a b)).t E ρ T := by simp only [wp] at h ⊢; exact h
theorem tisN {a : Ex} (h : (wp Γ (.isN a)).e E ρ fun r ρ1 => match r with
    | .dat (.bool b) => T b ρ1
    | _ => False) : (wp Γ (.isN a)).t E ρ T := by simp only [wp] at h ⊢; exact h
theorem tnotN {a : Ex} (h : (wp Γ (.notN a)).e E ρ fun r ρ1 => match r with
    | .dat (.bool b) => T b ρ1
    | _ => False) : (wp Γ (.notN a)).t E ρ T := by simp only [wp] at h ⊢; exact h
theorem tchain {o o' : C2} {a b c : Ex} (h : (wp Γ (.chain o o' a b c)).e E ρ fun r ρ1 => match r with
    | .dat (.bool b) => T b ρ1
    | _ => False) : (wp Γ (.chain o o' a b c)).t E ρ T := by simp only [wp] at h ⊢; exact h
theorem tcall {f : String} {es : List Ex} (h : (wp Γ (.call f es)).e E ρ fun r ρ1 => match r with
    | .dat (.bool b) => T b ρ1
    | _ => False) : (wp Γ (.call f es)).t E ρ T := by simp only [wp] at h ⊢; exact h
theorem tcallK {f : String} {ks : List String} {es : List Ex} (h : (wp Γ (.callK f ks es)).e E ρ fun r ρ1 => match r with
    | .dat (.bool b) => T b ρ1
    | _ => False) : (wp Γ (.callK f ks es)).t E ρ T := by simp only [wp] at h ⊢; exact h
theorem tbi {b : Bi} {es : List Ex} (h : (wp Γ (.bi b es)).e E ρ fun r ρ1 => match r with
    | .dat (.bool b) => T b ρ1
    | _ => False) : (wp Γ (.bi b es)).t E ρ T := by simp only [wp] at h ⊢; exact h
theorem tvar {i : Nat} (h : (wp Γ (.var i)).e E ρ fun r ρ1 => match r with
    | .dat (.bool b) => T b ρ1
    | _ => False) : (wp Γ (.var i)).t E ρ T := by simp only [wp] at h ⊢; exact h
theorem ife {c a b : Ex} (h : (wp Γ c).t E ρ fun q ρ1 => if q = true then (wp Γ a).e E ρ1 Q else (wp Γ b).e E ρ1 Q) : (wp Γ (.ife c a b)).e E ρ Q := by simp only [wp, W4.of]; exact h
theorem tup {es : List Ex} (h : eL (wps Γ es) E ρ fun rs ρ1 => escs rs ρ1 fun ds ρ2 => Q (.dat (.tuple ds)) ρ2) : (wp Γ (.tup es)).e E ρ Q := by simp only [wp, W4.of]; exact h
theorem lst {es : List Ex} (h : eL (wps Γ es) E ρ fun rs ρ1 => escs rs ρ1 fun ds ρ2 => Q (.own ds) ρ2) : (wp Γ (.lst es)).e E ρ Q := by simp only [wp, W4.of]; exact h
theorem idx {a b : Ex} (h : (wp Γ a).e E ρ fun r ρ1 => (wp Γ b).e E ρ1 fun s ρ2 => with2 ρ2 r s fun x y => idxD x y fun z => Q (.dat z) ρ2) : (wp Γ (.idx a b)).e E ρ Q := by simp only [wp, W4.of]; exact h
theorem slc {a : Ex} {lo hi : Option Ex} (h : (wp Γ a).e E ρ fun r ρ1 => optI (wpo Γ lo) E ρ1 fun i ρ2 => optI (wpo Γ hi) E ρ2 fun j ρ3 => with1 ρ3 r fun x => slcD x i j fun z => Q z ρ3) : (wp Γ (.slc a lo hi)).e E ρ Q := by simp only [wp, W4.of]; exact h
theorem oN {q : Option Int → Rho → Prop} (h : q none ρ) : optI (wpo Γ none) E ρ q := by simp only [wpo, optI]; exact h
theorem oS {e : Ex} {q : Option Int → Rho → Prop} (h : (wp Γ e).e E ρ fun r ρ1 => match r with
    | .dat (.int i) => q (some i) ρ1
    | _ => False) : optI (wpo Γ (some e)) E ρ q := by simp only [wpo, optI]; exact h
theorem call {f : String} {es : List Ex} (h : eL (wps Γ es) E ρ fun rs ρ1 => escs rs ρ1 fun ds ρ2 => Γ f (ds.map .dat) (fun r _ => Q r ρ2) E) : (wp Γ (.call f es)).e E ρ Q := by simp only [wp, W4.of, callW]; exact h
theorem callK {f : String} {ks : List String} {es : List Ex} (h : eL (wps Γ es) E ρ fun rs ρ1 => escs rs ρ1 fun ds ρ2 => Γ f (ds.map .dat) (fun r _ => Q r ρ2) E) : (wp Γ (.callK f ks es)).e E ρ Q := by simp only [wp, W4.of, callW]; exact h
def ioAt (sp : DSp) (E : Xn → Prop) (Q : Rs → Rho → Prop) : Rs → List D → Rho → Prop := fun r0 ds ρ2 => match r0 with
    | .ref i => match gt ρ2 i with
      | some (.own b xs) => sp (.own true xs :: ds.map .dat) (fun r outs => match outs with
          | [ys] => Q r (ρ2.set i (some (.own b ys)))
          | _ => False) E
      | _ => False
    | .own xs => sp (.own true xs :: ds.map .dat) (fun r outs => match outs with
          | [_] => Q r ρ2
          | _ => False) E
    | .dat _ => False
theorem callIo {f : String} {a : Ex} {es : List Ex} (h : (wp Γ a).e E ρ fun r0 ρ0 => eL (wps Γ es) E ρ0 fun rs ρ1 => escs rs ρ1 fun ds ρ2 => ioAt (Γ f) E Q r0 ds ρ2) : (wp Γ (.callIo f a es)).e E ρ Q := by simp only [wp, W4.of, callIoW, eL]; exact h
def one1 (q : List D → Prop) : List (List D) → Prop
  | [ys] => q ys
  | _ => False
theorem io_ref {sp : DSp} {i : Nat} {b : Bool} {xs ds : List D} (g : gt ρ i = some (.own b xs)) (h : sp (.own true xs :: ds.map .dat) (fun r outs => one1 (fun ys => Q r (ρ.set i (some (.own b ys)))) outs) E) : ioAt sp E Q (.ref i) ds ρ := by simp only [ioAt, g]; exact h
theorem io_own {sp : DSp} {xs ds : List D} (h : sp (.own true xs :: ds.map .dat) (fun r outs => one1 (fun _ => Q r ρ) outs) E) : ioAt sp E Q (.own xs) ds ρ := by simp only [ioAt]; exact h
theorem one_1 {q : List D → Prop} {ys : List D} (h : q ys) : one1 q [ys] := h
theorem bi {b : Bi} {es : List Ex} (h : eL (wps Γ es) E ρ fun rs ρ1 => withs ρ1 rs fun ds => biD b ds fun z => Q z ρ1) : (wp Γ (.bi b es)).e E ρ Q := by simp only [wp, W4.of]; exact h
theorem listR {es : List Ex} (h : eL (wps Γ es) E ρ fun rs ρ1 => withs ρ1 rs fun ds => rngD ds fun xs => xs.length ≤ 16777216 ∧ Q (.own xs) ρ1) : (wp Γ (.listR es)).e E ρ Q := by simp only [wp, W4.of]; exact h
theorem comp {elt it : Ex} {tg : Tn} {ifs : Option Ex} {own : List Nat} (h : (wp Γ it).i E ρ fun xs ck ρ1 => noOwn ρ1 own ∧
      compL (asnN tg) (match wpo Γ ifs with
        | none => fun _ ρ Q => Q true ρ
        | some w => w.t) (wp Γ elt).e ck own (fun acc ρ2 => Q (.own acc) (restR ρ1 ρ2 own)) xs [] (wipeR ρ1 own)) : (wp Γ (.comp elt tg it ifs own)).e E ρ Q := by simp only [wp, W4.of]; exact h
theorem index {a b : Ex} (h : (wp Γ a).e E ρ fun r ρ1 => with1 ρ1 r (fun x0 => isListD x0 = true) ∧ (wp Γ b).e E ρ1 fun s ρ2 => with2 ρ2 r s fun x y => match x with
    | .list xs => shp y ∧ shp (.list xs) ∧ match xs.findIdx? (fun z => PyData.eqv z y) with
      | some n => Q (.dat (.int n)) ρ2
      | none => False
    | _ => False) : (wp Γ (.index a b)).e E ρ Q := by simp only [wp, W4.of]; exact h
/-! lists of expressions -/
theorem an {q : List Rs → Rho → Prop} (h : q [] ρ) : eL (wps Γ []) E ρ q := by simp only [wps, eL]; exact h
theorem ac {e : Ex} {es : List Ex} {q : List Rs → Rho → Prop} (h : (wp Γ e).e E ρ fun r ρ1 => eL (wps Γ es) E ρ1 fun rs ρ2 => q (r :: rs) ρ2) : eL (wps Γ (e :: es)) E ρ q := by simp only [wps, eL]; exact h
theorem en {q : List D → Rho → Prop} (h : q [] ρ) : escs [] ρ q := h
theorem ec {r : Rs} {rs : List Rs} {q : List D → Rho → Prop} (h : esc r ρ fun d ρ1 => escs rs ρ1 fun ds ρ2 => q (d :: ds) ρ2) : escs (r :: rs) ρ q := h
theorem ed {d : D} (h : k d ρ) : esc (.dat d) ρ k := h
theorem eo {xs : List D} (h : k (.list xs) ρ) : esc (.own xs) ρ k := h
theorem erd {i : Nat} {d : D} (g : gt ρ i = some (.dat d)) (h : k d ρ) : esc (.ref i) ρ k := by simp only [esc, g]; exact h
theorem ero {i : Nat} {xs : List D} (g : gt ρ i = some (.own false xs)) (h : k (.list xs) (ρ.set i (some (.dat (.list xs))))) : esc (.ref i) ρ k := by simp only [esc, g]; exact h
theorem w1 {r : Rs} {x : D} {q : D → Prop} (g : deref ρ r = some x) (h : q x) : with1 ρ r q := by simp only [with1, g]; exact h
theorem w2 {r s : Rs} {x y : D} {q : D → D → Prop} (g : deref ρ r = some x) (g' : deref ρ s = some y) (h : q x y) : with2 ρ r s q := by simp only [with2, g, g']; exact h
theorem ws {rs : List Rs} {ds : List D} {q : List D → Prop} (g : derefs ρ rs = some ds) (h : q ds) : withs ρ rs q := by simp only [withs, g]; exact h
/-! what is walked -/
theorem irange {es : List Ex} {q : List D → (Rho → Prop) → Rho → Prop} (h : eL (wps Γ es) E ρ fun rs ρ1 => withs ρ1 rs fun ds => rngD ds fun xs => q xs (fun _ => True) ρ1) : (wp Γ (.range es)).i E ρ q := by simp only [wp]; exact h
theorem frange {es : List Ex} {q : List D → (Rho → Prop) → Rho → Prop} (h : eL (wps Γ es) E ρ fun rs ρ1 => withs ρ1 rs fun ds => rngD ds fun xs => q xs (fun _ => True) ρ1) : (wp Γ (.range es)).f E ρ q := by simp only [wp]; exact h
theorem rng1 {n : Int} {q : List D → Prop} (h : -(2 ^ 62) ≤ n ∧ n < 2 ^ 62) (l : LenOk n.toNat) (g : q ((List.range n.toNat).map fun (i : Nat) => PyData.int i)) : rngD [.int n] q := ⟨h, l, g⟩
theorem rng2 {a b : Int} {q : List D → Prop} (h : -(2 ^ 62) ≤ a ∧ a < 2 ^ 62 ∧ -(2 ^ 62) ≤ b ∧ b < 2 ^ 62) (l : LenOk (b - a).toNat) (g : q ((List.range (b - a).toNat).map fun (i : Nat) => PyData.int (a + i))) : rngD [.int a, .int b] q := ⟨h, l, g⟩
/-! statements -/
variable {d : DEn}
theorem sn (h : d.nx ρ) : wpSs Γ [] E d ρ := by simp only [wpSs]; exact h
theorem sc {s : Sm} {ss : List Sm} (h : wpS Γ s E { d with nx := fun ρ1 => wpSs Γ ss E d ρ1 } ρ) : wpSs Γ (s :: ss) E d ρ := by simp only [wpSs]; exact h
theorem sasg {t : Ta} {e : Ex} (h : (wp Γ e).e E ρ fun r ρ1 => asn Γ t r E ρ1 d.nx) : wpS Γ (.asg t e) E d ρ := by simp only [wpS]; exact h
theorem spar {ts : List Ta} {es : List Ex} (h : eL (wps Γ es) E ρ fun rs ρ1 => settle rs ρ1 fun rs' ρ2 => asns Γ ts rs' E ρ2 d.nx) : wpS Γ (.par ts es) E d ρ := by simp only [wpS]; exact h
theorem sexpr {e : Ex} (h : (wp Γ e).e E ρ fun _ ρ1 => d.nx ρ1) : wpS Γ (.expr e) E d ρ := by simp only [wpS]; exact h
def appAt (i : Nat) (nx : Rho → Prop) : D → Rho → Prop := fun x ρ2 => match gt ρ2 i with
    | some (.own b xs) => xs.length < sizeLine ∧ nx (ρ2.set i (some (.own b (xs ++ [x]))))
    | _ => False
theorem sapp {i : Nat} {e : Ex} (h : isOwn ρ i ∧ (wp Γ e).e E ρ fun r ρ1 => esc r ρ1 (appAt i d.nx)) : wpS Γ (.app i e) E d ρ := by simp only [wpS]; exact h
theorem app_at {i : Nat} {x : D} {b : Bool} {xs : List D} (g : gt ρ i = some (.own b xs)) (l : xs.length < sizeLine) (h : kk (ρ.set i (some (.own b (xs ++ [x]))))) : appAt i kk x ρ := by simp only [appAt, g]; exact ⟨l, h⟩
def extAt (i : Nat) (nx : Rho → Prop) : Rs → Rho → Prop := fun r ρ1 => match r with
    | .own ys => match gt ρ1 i with
      | some (.own b xs) => LenOk (xs.length + ys.length) ∧ nx (ρ1.set i (some (.own b (xs ++ ys))))
      | _ => False
    | _ => False
theorem sext {i : Nat} {e : Ex} (h : isOwn ρ i ∧ (wp Γ e).e E ρ (extAt i d.nx)) : wpS Γ (.ext i e) E d ρ := by simp only [wpS]; exact h
theorem sret {e : Ex} (h : (wp Γ e).e E ρ fun r ρ1 => d.rt r ρ1) : wpS Γ (.ret e) E d ρ := by simp only [wpS]; exact h
theorem site {c : Ex} {a b : List Sm} (h : (wp Γ c).t E ρ fun q ρ1 => if q = true then wpSs Γ a E d ρ1 else wpSs Γ b E d ρ1) : wpS Γ (.ite c a b) E d ρ := by simp only [wpS]; exact h
theorem sfor {t : Tn} {it : Ex} {b : List Sm} (h : (wp Γ it).f E ρ fun xs _ ρ1 => forL (asnN t) (wpSs Γ b E) d xs ρ1) : wpS Γ (.for_ t it b) E d ρ := by simp only [wpS]; exact h
/-! targets -/
variable {kk : Rho → Prop}
def notIo (ρ : Rho) (i : Nat) : Prop := ∀ xs, gt ρ i ≠ some (.own true xs)
theorem nd_ {i : Nat} {v : D} (n : notIo ρ i) (h : kk (ρ.set i (some (.dat v)))) : asn Γ (.name i) (.dat v) E ρ kk := by
  simp only [asn, putR]
  split
  · rename_i xs e; exact (n xs e).elim
  · exact h
theorem no_ {i : Nat} {v : List D} (n : notIo ρ i) (h : kk (ρ.set i (some (.own false v)))) : asn Γ (.name i) (.own v) E ρ kk := by
  simp only [asn, putR]
  split
  · rename_i xs e; exact (n xs e).elim
  · exact h
theorem nr_ {i j : Nat} (n : notIo ρ i) (h : esc (.ref j) ρ fun v ρ1 => kk (ρ1.set i (some (.dat v)))) : asn Γ (.name i) (.ref j) E ρ kk := by
  simp only [asn, putR]
  split
  · rename_i xs e; exact (n xs e).elim
  · exact h
theorem tt {ts : List Ta} {ds : List D} (l : ds.length = ts.length) (h : asns Γ ts (ds.map .dat) E ρ kk) : asn Γ (.tup ts) (.dat (.tuple ds)) E ρ kk := by simp only [asn]; exact ⟨l, h⟩
theorem tn (h : kk ρ) : asns Γ [] [] E ρ kk := by simp only [asns]; exact h
theorem tc {t : Ta} {ts : List Ta} {r : Rs} {rs : List Rs} (h : asn Γ t r E ρ fun ρ1 => asns Γ ts rs E ρ1 kk) : asns Γ (t :: ts) (r :: rs) E ρ kk := by simp only [asns]; exact h
def putAt (i : Nat) (v : D) (kk : Rho → Prop) : Rs → Rho → Prop := fun q ρ2 => match q with
    | .dat (.int j) => match gt ρ2 i with
      | some (.own b xs) => match ixN xs.length j with
        | some n => kk (ρ2.set i (some (.own b (xs.set n v))))
        | none => False
      | _ => False
    | _ => False
theorem subd {i : Nat} {ix : Ex} {r : Rs} (h : esc r ρ fun v ρ1 => isOwn ρ1 i ∧ (wp Γ ix).e E ρ1 (putAt i v kk)) : asn Γ (.sub i ix) r E ρ kk := by simp only [asn]; exact h
theorem own_and {i : Nat} {b : Bool} {xs : List D} {p : Prop} (g : gt ρ i = some (.own b xs)) (h : p) : isOwn ρ i ∧ p := ⟨by simp only [isOwn, g], h⟩
theorem put_at {i n : Nat} {j : Int} {v : D} {b : Bool} {xs : List D} (g : gt ρ i = some (.own b xs)) (e : ixN xs.length j = some n) (h : kk (ρ.set i (some (.own b (xs.set n v))))) : putAt i v kk (.dat (.int j)) ρ := by simp only [putAt, g, e]; exact h
theorem setn {q : List Rs → Rho → Prop} (h : q [] ρ) : settle [] ρ q := by simp only [DL.settle]; exact h
theorem setd {v : D} {rs : List Rs} {q : List Rs → Rho → Prop} (h : settle rs ρ fun rs' ρ2 => q (.dat v :: rs') ρ2) : settle (.dat v :: rs) ρ q := by simp only [DL.settle]; exact h
theorem seto {v : List D} {rs : List Rs} {q : List Rs → Rho → Prop} (h : settle rs ρ fun rs' ρ2 => q (.own v :: rs') ρ2) : settle (.own v :: rs) ρ q := by simp only [DL.settle]; exact h
theorem setr {i : Nat} {rs : List Rs} {q : List Rs → Rho → Prop} (h : esc (.ref i) ρ fun v ρ1 => settle rs ρ1 fun rs' ρ2 => q (.dat v :: rs') ρ2) : settle (.ref i :: rs) ρ q := by simp only [DL.settle]; exact h
theorem ifT {p q : Prop} (h : p) : if true = true then p else q := h
theorem ifF {p q : Prop} (h : q) : if false = true then p else q := h
/-- the slot may be given another thing -/
def okSl : Option Sl → Bool
  | some (.own true _) => false
  | _ => true
theorem nio {i : Nat} {s : Option Sl} (g : gt ρ i = s) (h : okSl s = true) : notIo ρ i := fun xs e => by
  rw [g] at e; subst e; cases h
end R
end DL
/-! DL35: rules of the operations; the tactic. -/
namespace DL
open PySem PySem.Spec PyProof.Rows L2
namespace R
/-- a def opened -/
theorem opn {P : List FDef} (nd : (P.map (·.name)).Nodup) {d : FDef} (h : d ∈ P) {k : Nat} {sl : List Sl} {Q : Rs → List (List D) → Prop} {E : Xn → Prop} (l : sl.length = d.pars.length)
    (g : wpSs (gam P k) d.body E ⟨fin sl Q (.dat .none), fin sl Q, fun _ => False, fun _ => False⟩ (sl.map some ++ List.replicate (d.N.length - d.pars.length) none)) : gam P (k + 1) d.name sl Q E := by
  rw [gam_at nd h]
  exact ⟨l, g⟩
variable {k : KR} {i j : Int} {xs ys : List D} {x y : D} {kb : Bool → Prop} {kd : D → Prop}
theorem add_i (h : k (.dat (.int (i + j)))) : op2D .add (.int i) (.int j) k := h
theorem sub_i (h : k (.dat (.int (i - j)))) : op2D .sub (.int i) (.int j) k := h
theorem mul_i (m : MulOk i j) (h : k (.dat (.int (i * j)))) : op2D .mul (.int i) (.int j) k := ⟨m, h⟩
theorem add_l (m : LenOk (xs.length + ys.length)) (h : k (.own (xs ++ ys))) : op2D .add (.list xs) (.list ys) k := ⟨m, h⟩
theorem add_t (m : LenOk (xs.length + ys.length)) (h : k (.dat (.tuple (xs ++ ys)))) : op2D .add (.tuple xs) (.tuple ys) k := ⟨m, h⟩
theorem fdiv_i (m : DivOk j) (h : k (.dat (.int (i / j)))) : op2D .fdiv (.int i) (.int j) k := ⟨m, h⟩
theorem mod_i (m : 0 < j) (h : k (.dat (.int (i % j)))) : op2D .mod (.int i) (.int j) k := ⟨m, h⟩
theorem pow_i (m : 0 ≤ j ∧ j ≤ 1000000 ∧ i.natAbs < 2 ^ 64) (h : k (.dat (.int (i ^ j.toNat)))) : op2D .pow (.int i) (.int j) k := ⟨m, h⟩
theorem lt_i (h : kb (decide (i < j))) : cmpD .lt (.int i) (.int j) kb := h
theorem le_i (h : kb (decide (i ≤ j))) : cmpD .le (.int i) (.int j) kb := h
theorem gt_i (h : kb (decide (j < i))) : cmpD .gt (.int i) (.int j) kb := h
theorem ge_i (h : kb (decide (j ≤ i))) : cmpD .ge (.int i) (.int j) kb := h
theorem eq_d (a : shp x) (b : shp y) (h : kb (PyData.eqv x y)) : cmpD .eq x y kb := ⟨a, b, h⟩
theorem ne_d (a : shp x) (b : shp y) (h : kb (!PyData.eqv x y)) : cmpD .ne x y kb := ⟨a, b, h⟩
theorem idx_l (g : atI xs i = some x) (h : kd x) : idxD (.list xs) (.int i) kd := by simp only [idxD, g]; exact h
theorem idx_t (g : atI xs i = some x) (h : kd x) : idxD (.tuple xs) (.int i) kd := by simp only [idxD, g]; exact h
theorem slc_l {lo hi : Option Int} (h : k (.own (cutD xs lo hi))) : slcD (.list xs) lo hi k := h
theorem slc_t {lo hi : Option Int} (h : k (.dat (.tuple (cutD xs lo hi)))) : slcD (.tuple xs) lo hi k := h
theorem len_l (h : k (.dat (.int xs.length))) : biD .len [.list xs] k := h
theorem len_t (h : k (.dat (.int xs.length))) : biD .len [.tuple xs] k := h
theorem tuple_l (h : k (.dat (.tuple xs))) : biD .tuple [.list xs] k := h
theorem tuple_t (h : k (.dat (.tuple xs))) : biD .tuple [.tuple xs] k := h
theorem list_l (h : k (.own xs)) : biD .list [.list xs] k := h
theorem list_t (h : k (.own xs)) : biD .list [.tuple xs] k := h
theorem abs_i (h : k (.dat (.int (if i < 0 then -i else i)))) : biD .abs [.int i] k := h
theorem int_i (h : k (.dat (.int i))) : biD .int [.int i] k := h
theorem divmod_i (m : 0 < j ∧ j < 1073741824) (h : k (.dat (.tuple [.int (i / j), .int (i % j)]))) : biD .divmod [.int i, .int j] k := ⟨m, h⟩
theorem gcd_i (h : k (.dat (.int ((Nat.gcd i.natAbs j.natAbs : Nat) : Int)))) : biD .gcd [.int i, .int j] k := h
theorem isint (h : k (.dat (.bool (isIntD x)))) : biD .isInt [x] k := h
theorem isbool (h : k (.dat (.bool (isBoolD x)))) : biD .isBool [x] k := h
theorem istuple (h : k (.dat (.bool (isTupleD x)))) : biD .isTuple [x] k := h
theorem islist (h : k (.dat (.bool (isListD x)))) : biD .isList [x] k := h
theorem repr_d (m : ReprOk x) (h : k (.dat (.str x.shown))) : biD .repr [x] k := ⟨m, h⟩
theorem intsD_map : ∀ ns : List Int, intsD (ns.map .int) = some ns
  | [] => rfl
  | n :: ns => by simp [intsD, intsD_map ns]
theorem boolsD_map : ∀ bs : List Bool, boolsD (bs.map .bool) = some bs
  | [] => rfl
  | n :: ns => by simp [boolsD, boolsD_map ns]
theorem sum_is {ns : List Int} (h : k (.dat (.int ns.sum))) : biD .sum [.list (ns.map .int)] k := by simp only [biD, bInts, intsD_map]; exact h
theorem all_bs {bs : List Bool} (h : k (.dat (.bool (bs.all id)))) : biD .all [.list (bs.map .bool)] k := by simp only [biD, bBools, boolsD_map]; exact h
theorem any_bs {bs : List Bool} (h : k (.dat (.bool (bs.any id)))) : biD .any [.list (bs.map .bool)] k := by simp only [biD, bBools, boolsD_map]; exact h
theorem find {sl : List Sl} {q : Rs → List (List D) → Prop} {ρ : Rho} {o : List (List D)} (e : outs sl ρ = some o) (h : q (.dat x) o) : fin sl q (.dat x) ρ := by simp only [fin, e]; exact h
theorem fino {sl : List Sl} {q : Rs → List (List D) → Prop} {ρ : Rho} {o : List (List D)} (e : outs sl ρ = some o) (h : q (.own xs) o) : fin sl q (.own xs) ρ := by simp only [fin, e]; exact h
theorem finr {sl : List Sl} {q : Rs → List (List D) → Prop} {ρ : Rho} {o : List (List D)} {m : Nat} (e : outs sl ρ = some o) (g : gt ρ m = some (.own false xs)) (h : q (.own xs) o) : fin sl q (.ref m) ρ := by simp only [fin, e, g]; exact h
theorem find' {sl : List Sl} {q : Rs → List (List D) → Prop} {ρ : Rho} {o : List (List D)} {m : Nat} (e : outs sl ρ = some o) (g : gt ρ m = some (.dat x)) (h : q (.dat x) o) : fin sl q (.ref m) ρ := by simp only [fin, e, g]; exact h
theorem iteD {c : Prop} [Decidable c] {p q : Prop} (h1 : c → p) (h2 : ¬ c → q) : if decide c = true then p else q := by
  split
  · exact h1 (of_decide_eq_true ‹_›)
  · exact h2 (fun z => ‹¬ _› (decide_eq_true z))
theorem join {Γ : Gam} {E : Xn → Prop} {ρ : Rho} {e : Ex} {α : Type} (f : α → Rs) {q : Rs → Rho → Prop} (h0 : ∀ v, q (f v) ρ) (h : ∀ q' : Rs → Rho → Prop, (∀ v, q' (f v) ρ) → (wp Γ e).e E ρ q') : (wp Γ e).e E ρ q := h q h0
def isVal : Ex → Bool
  | .not _ | .and _ _ | .or _ _ | .range _ | .enum _ | .zip _ _ | .rev _ => false
  | _ => true
theorem val_all {Γ : Gam} : ∀ {e : Ex}, isVal e = true → (wp Γ e).i = asI (wp Γ e).e ∧ (wp Γ e).f = asF (wp Γ e).e := by
  intro e h
  cases e <;> first | (simp only [wp]; exact ⟨rfl, rfl⟩) | cases h
def fSeq (k : List D → (Rho → Prop) → Rho → Prop) : D → Rho → Prop := fun d ρ2 => match seqD d with
    | some xs => k xs (fun _ => True) ρ2
    | none => False
theorem fval {Γ : Gam} {E : Xn → Prop} {ρ : Rho} {e : Ex} {k : List D → (Rho → Prop) → Rho → Prop} (v : isVal e = true) (h : (wp Γ e).e E ρ fun r ρ1 => esc r ρ1 (fSeq k)) : (wp Γ e).f E ρ k := by rw [(val_all v).2]; exact h
theorem f_l {ρ : Rho} {k : List D → (Rho → Prop) → Rho → Prop} (h : k xs (fun _ => True) ρ) : fSeq k (.list xs) ρ := h
theorem f_t {ρ : Rho} {k : List D → (Rho → Prop) → Rho → Prop} (h : k xs (fun _ => True) ρ) : fSeq k (.tuple xs) ρ := h
def iAt (k : List D → (Rho → Prop) → Rho → Prop) : Rs → Rho → Prop := fun r ρ1 => match deref ρ1 r with
  | some (.list xs) => k xs (chk r xs) ρ1
  | some (.tuple xs) => match r with
    | .dat _ => k xs (fun _ => True) ρ1
    | _ => False
  | _ => False
theorem ival {Γ : Gam} {E : Xn → Prop} {ρ : Rho} {e : Ex} {k : List D → (Rho → Prop) → Rho → Prop} (v : isVal e = true) (h : (wp Γ e).e E ρ (iAt k)) : (wp Γ e).i E ρ k := by rw [(val_all v).1]; exact h
theorem i_l {ρ : Rho} {k : List D → (Rho → Prop) → Rho → Prop} (h : k xs (fun _ => True) ρ) : iAt k (.dat (.list xs)) ρ := h
theorem i_t {ρ : Rho} {k : List D → (Rho → Prop) → Rho → Prop} (h : k xs (fun _ => True) ρ) : iAt k (.dat (.tuple xs)) ρ := h
theorem i_o {ρ : Rho} {k : List D → (Rho → Prop) → Rho → Prop} (h : k xs (fun _ => True) ρ) : iAt k (.own xs) ρ := h
theorem i_r {ρ : Rho} {i : Nat} {b : Bool} {k : List D → (Rho → Prop) → Rho → Prop} (g : gt ρ i = some (.own b xs)) (h : k xs (fun ρ' => deref ρ' (.ref i) = some (.list xs)) ρ) : iAt k (.ref i) ρ := by
  have e : deref ρ (.ref i) = some (.list xs) := by simp only [deref, g]
  simp only [iAt, e]
  exact h
theorem for_rule {g : D → Rho → (Rho → Prop) → Prop} {b : DEn → Rho → Prop} {d : DEn} (I : List D → Rho → Prop) (hn : ∀ ρ, I [] ρ → d.nx ρ)
    (hs : ∀ x xs ρ nx, I (x :: xs) ρ → (∀ ρ', I xs ρ' → nx ρ') → g x ρ fun ρ1 => b { nx := nx, ct := nx, bk := d.nx, rt := d.rt } ρ1) : ∀ xs ρ, I xs ρ → forL g b d xs ρ
  | [], ρ, h => hn ρ h
  | x :: xs, ρ, h => hs x xs ρ _ h fun ρ' h' => for_rule I hn hs xs ρ' h'
theorem an_name {i : Nat} {d : D} {ρ : Rho} {kk : Rho → Prop} (n : notIo ρ i) (h : kk (ρ.set i (some (.dat d)))) : asnN (.name i) d ρ kk := by
  simp only [asnN]
  split
  · rename_i xs e; exact (n xs e).elim
  · exact h
theorem an_two {i j : Nat} {a b : D} {ρ : Rho} {kk : Rho → Prop} (n : notIo ρ i) (m : notIo ρ j) (h : kk ((ρ.set i (some (.dat a))).set j (some (.dat b)))) : asnN (.tup [.name i, .name j]) (.tuple [a, b]) ρ kk := by
  simp only [asnN]
  split
  · exact (n _ ‹gt ρ i = _›).elim
  · exact (m _ ‹gt ρ j = _›).elim
  · exact h
theorem an_three {i j l : Nat} {a b c : D} {ρ : Rho} {kk : Rho → Prop} (n : notIo ρ i) (m : notIo ρ j) (o : notIo ρ l) (h : kk (((ρ.set i (some (.dat a))).set j (some (.dat b))).set l (some (.dat c)))) : asnN (.tup [.name i, .name j, .name l]) (.tuple [a, b, c]) ρ kk := by
  simp only [asnN]
  split
  · exact (n _ ‹gt ρ i = _›).elim
  · exact (m _ ‹gt ρ j = _›).elim
  · exact (o _ ‹gt ρ l = _›).elim
  · exact h
end R
end DL
/-! DL36: the small syntax, run. -/
namespace DL
open PySem PySem.Spec PyProof.Rows L2
abbrev CF := String → List Sl → Option (Rs × List (List D))
abbrev EE := Rho → Option (Rs × Rho)
structure Ev where
  e : EE
  t : Rho → Option (Bool × Rho)
  i : Rho → Option (List D × Option (Nat × List D) × Rho)
  f : Rho → Option (List D × Rho)
  r : Option EE := none
def escE : Rs → Rho → Option (D × Rho)
  | .dat d, ρ => some (d, ρ)
  | .own xs, ρ => some (.list xs, ρ)
  | .ref i, ρ => match gt ρ i with
    | some (.dat d) => some (d, ρ)
    | some (.own false xs) => some (.list xs, ρ.set i (some (.dat (.list xs))))
    | _ => none
def escsE : List Rs → Rho → Option (List D × Rho)
  | [], ρ => some ([], ρ)
  | r :: rs, ρ => (escE r ρ).bind fun (d, ρ1) => (escsE rs ρ1).bind fun (ds, ρ2) => some (d :: ds, ρ2)
def op2E : O2 → D → D → Option Rs
  | .add, .int i, .int j => some (.dat (.int (i + j)))
  | .add, .list xs, .list ys => if decide (xs.length + ys.length ≤ sizeLine) then some (.own (xs ++ ys)) else none
  | .add, .tuple xs, .tuple ys => if decide (xs.length + ys.length ≤ sizeLine) then some (.dat (.tuple (xs ++ ys))) else none
  | .sub, .int i, .int j => some (.dat (.int (i - j)))
  | .mul, .int i, .int j => if decide ((Builtin.Int.intBits i : Int) + (Builtin.Int.intBits j : Int) ≤ 134217728) then some (.dat (.int (i * j))) else none
  | .fdiv, .int i, .int j => if decide (0 < j) && decide (j.natAbs.log2 < 9000) then some (.dat (.int (i / j))) else none
  | .mod, .int i, .int j => if decide (0 < j) then some (.dat (.int (i % j))) else none
  | _, _, _ => none
def cmpE : C2 → D → D → Option Bool
  | .lt, .int i, .int j => some (decide (i < j))
  | .le, .int i, .int j => some (decide (i ≤ j))
  | .gt, .int i, .int j => some (decide (j < i))
  | .ge, .int i, .int j => some (decide (j ≤ i))
  | .eq, x, y => if SeqAt.shaped x && SeqAt.shaped y then some (PyData.eqv x y) else none
  | .ne, x, y => if SeqAt.shaped x && SeqAt.shaped y then some (!PyData.eqv x y) else none
  | .isin, x, .list ys => if SeqAt.shaped x && SeqAt.shaped (.list ys) then some (inD x ys) else none
  | .notin, x, .list ys => if SeqAt.shaped x && SeqAt.shaped (.list ys) then some (!inD x ys) else none
  | .isin, x, .tuple ys => if SeqAt.shaped x && SeqAt.shaped (.tuple ys) then some (inD x ys) else none
  | .notin, x, .tuple ys => if SeqAt.shaped x && SeqAt.shaped (.tuple ys) then some (!inD x ys) else none
  | _, _, _ => none
def idxE : D → D → Option D
  | .list xs, .int i => atI xs i
  | .tuple xs, .int i => atI xs i
  | _, _ => none
def biE : Bi → List D → Option Rs
  | .len, [.list xs] => some (.dat (.int xs.length))
  | .len, [.tuple xs] => some (.dat (.int xs.length))
  | .tuple, [.list xs] => some (.dat (.tuple xs))
  | .tuple, [.tuple xs] => some (.dat (.tuple xs))
  | .list, [.list xs] => some (.own xs)
  | .list, [.tuple xs] => some (.own xs)
  | .abs, [.int i] => some (.dat (.int (if i < 0 then -i else i)))
  | .int, [.int i] => some (.dat (.int i))
  | .isInt, [d] => some (.dat (.bool (isIntD d)))
  | .isBool, [d] => some (.dat (.bool (isBoolD d)))
  | .isTuple, [d] => some (.dat (.bool (isTupleD d)))
  | .isList, [d] => some (.dat (.bool (isListD d)))
  | .sum, [.list xs] => (intsD xs).map fun ns => .dat (.int ns.sum)
  | .all, [.list xs] => (boolsD xs).map fun bs => .dat (.bool (bs.all id))
  | .any, [.list xs] => (boolsD xs).map fun bs => .dat (.bool (bs.any id))
  | .repr, [d] => if d.showable && decide (d.depth ≤ 60) && decide (d.shown.length ≤ sizeLine) then some (.dat (.str d.shown)) else none
  | _, _ => none
theorem escE_ok {r : Rs} {ρ ρ' : Rho} {d : D} (h : escE r ρ = some (d, ρ')) {k : D → Rho → Prop} (q : k d ρ') : esc r ρ k := by
  cases r with
  | dat x => cases h; exact q
  | own x => cases h; exact q
  | ref i =>
    simp only [escE] at h
    simp only [esc]
    split at h
    · rename_i e; (try rw [e]); cases h; exact q
    · rename_i e; (try rw [e]); cases h; exact q
    · cases h
/-! sorting -/
def ins (key : D → Int) (x : D) : List D → List D
  | [] => [x]
  | y :: ys => if key x ≤ key y then x :: y :: ys else y :: ins key x ys
def srt (key : D → Int) : List D → List D
  | [] => []
  | x :: xs => ins key x (srt key xs)
end DL
/-! DL37: expressions, run. -/
namespace DL
open PySem PySem.Spec PyProof.Rows L2
def keyB (B : Int) : D → Int
  | .int i => i
  | .tuple ys => match intsD ys with
    | some ns => TS.code B ns
    | none => 0
  | _ => 0
def tupB (d : Nat) (B : Int) : D → Bool
  | .tuple ys => match intsD ys with
    | some ns => decide (ns.length = d) && ns.all fun m => decide (0 ≤ m) && decide (m < B)
    | none => false
  | _ => false
def sortE (xs : List D) : Option Rs := match intsD xs with
  | some ns => if ns.length < 64 then some (.own (srt (keyB 0) xs)) else none
  | none => match xs with
    | .tuple ys :: _ => if decide (1 ≤ ys.length) && decide (xs.length < 64) && xs.all (tupB ys.length 64) && xs.all (fun x => xs.all fun y => !decide (keyB 64 x = keyB 64 y) || eqD x y) then some (.own (srt (keyB 64) xs)) else none
    | _ => none
def biEE (b : Bi) (ds : List D) : Option Rs := match b, ds with
  | .sorted, [.list xs] => sortE xs
  | _, _ => biE b ds
/-! results that are made from values -/
def tOf (e : EE) : Rho → Option (Bool × Rho) := fun ρ => match e ρ with
  | some (.dat (.bool b), ρ1) => some (b, ρ1)
  | _ => none
def iOf (e : EE) : Rho → Option (List D × Option (Nat × List D) × Rho) := fun ρ => match e ρ with
  | some (.dat (.list xs), ρ1) => some (xs, none, ρ1)
  | some (.dat (.tuple xs), ρ1) => some (xs, none, ρ1)
  | some (.own xs, ρ1) => some (xs, none, ρ1)
  | some (.ref i, ρ1) => match gt ρ1 i with
    | some (.own _ xs) => some (xs, some (i, xs), ρ1)
    | some (.dat (.list xs)) => some (xs, some (i, xs), ρ1)
    | _ => none
  | none => none
  | _ => none
def fOf (e : EE) : Rho → Option (List D × Rho) := fun ρ => (e ρ).bind fun (r, ρ1) => (escE r ρ1).bind fun (d, ρ2) => (seqD d).map fun xs => (xs, ρ2)
def Ev.of (e : EE) : Ev := ⟨e, tOf e, iOf e, fOf e, none⟩
def ckP : Option (Nat × List D) → Rho → Prop
  | none => fun _ => True
  | some (i, xs) => fun ρ => deref ρ (.ref i) = some (.list xs)
structure EvOk (v : Ev) (w : W4) : Prop where
  e : ∀ {ρ r ρ'}, v.e ρ = some (r, ρ') → ∀ {E Q}, Q r ρ' → w.e E ρ Q
  t : ∀ {ρ b ρ'}, v.t ρ = some (b, ρ') → ∀ {E Q}, Q b ρ' → w.t E ρ Q
  i : ∀ {ρ xs c ρ'}, v.i ρ = some (xs, c, ρ') → ∀ {E k}, k xs (ckP c) ρ' → w.i E ρ k
  f : ∀ {ρ xs ρ'}, v.f ρ = some (xs, ρ') → ∀ {E k}, k xs (fun _ => True) ρ' → w.f E ρ k
  r : ∀ {x : EE}, v.r = some x → ∃ w' : W4, (∀ {ρ r ρ'}, x ρ = some (r, ρ') → ∀ {E Q}, Q r ρ' → w'.e E ρ Q) ∧ w.e = fun E ρ Q => eL [w'] E ρ fun rs ρ1 => withs ρ1 rs fun ds => biD .repr ds fun z => Q z ρ1
theorem EvOk.of {e : EE} {w : DTE} (h : ∀ {ρ r ρ'}, e ρ = some (r, ρ') → ∀ {E Q}, Q r ρ' → w E ρ Q) : EvOk (.of e) (.of w) where
  e := fun hh => h hh
  t := fun {ρ b ρ'} hh {E Q} q => by
    have hh : tOf e ρ = some (b, ρ') := hh
    unfold tOf at hh
    split at hh
    · rename_i eh; cases hh; exact h eh q
    · cases hh
  i := fun {ρ xs c ρ'} hh {E k} q => by
    have hh : iOf e ρ = some (xs, c, ρ') := hh
    unfold iOf at hh
    split at hh
    · rename_i eh; cases hh; exact h eh q
    · rename_i eh; cases hh; exact h eh q
    · rename_i eh; cases hh; exact h eh q
    · rename_i i ρ1 eh
      refine h eh ?_
      split at hh
      · rename_i g
        cases hh
        simp only [deref, g]
        exact q
      · rename_i g
        cases hh
        simp only [deref, g]
        exact q
      · cases hh
    · cases hh
    · cases hh
  f := fun {ρ xs ρ'} hh {E k} q => by
    have hh : fOf e ρ = some (xs, ρ') := hh
    simp only [fOf, Option.bind_eq_some_iff, Option.map_eq_some_iff] at hh
    obtain ⟨⟨r, ρ1⟩, h1, ⟨d, ρ2⟩, h2, ys, h3, h4⟩ := hh
    cases h4
    exact h h1 (escE_ok h2 (by simp only [h3]; exact q))
  r := fun {x} hh => by cases hh
mutual
def lenB : D → Nat
  | .none => 4
  | .bool _ => 5
  | .int i => if 0 ≤ i ∧ i < 10 then 1 else 33554432
  | .str _ => 33554432
  | .list xs => lenBs xs + 3
  | .tuple xs => lenBs xs + 4
  | .dict _ => 33554432
def lenBs : List D → Nat
  | [] => 0
  | x :: xs => lenB x + 2 + lenBs xs
end
theorem textFrom_le : ∀ (ts : List Str) (k : Nat) (acc : Str), (textFrom k acc ts).length ≤ acc.length + piled ts
  | [], k, acc => Nat.le_add_right _ _
  | t :: r, k, acc => by
    have ih := textFrom_le r (k + 1) (acc ++ (if k > 0 then ", " else "" : String) ++ t)
    have e : (acc ++ (if k > 0 then ", " else "" : String) ++ t).length ≤ acc.length + 2 + t.length := by
      rw [strLen_append, strLen_append]
      split
      · have : (Str.ofString ", ").length = 2 := rfl
        omega
      · have : (Str.ofString "").length = 0 := rfl
        omega
    have p : piled (t :: r) = t.length + 2 + piled r := by first | rfl | (simp [piled]) | (simp [piled]; omega)
    show (textFrom (k + 1) (acc ++ (if k > 0 then ", " else "" : String) ++ t) r).length ≤ _
    omega
theorem listText_le (ts : List Str) : (listText ts).length ≤ piled ts + 3 := by
  unfold listText
  rw [strLen_append]
  have := textFrom_le ts 0 "["
  have e1 : (Str.ofString "[").length = 1 := rfl
  have e2 : (Str.ofString "]").length = 1 := rfl
  omega
theorem tupleText_le (ts : List Str) : (tupleText ts).length ≤ piled ts + 4 := by
  unfold tupleText
  rw [strLen_append, strLen_append]
  have e1 : (Str.ofString "(").length = 1 := rfl
  have e2 : (Str.ofString (if ts.length == 1 then ",)" else ")" : String)).length ≤ 2 := by
    split
    · exact Nat.le_of_eq rfl
    · exact Nat.le_trans (Nat.le_of_eq rfl) (by decide : 1 ≤ 2)
  cases ts with
  | nil =>
    have : (Str.join ", " []).length = 0 := rfl
    omega
  | cons t r =>
    have := join_length_add (t :: r) (by simp)
    omega
theorem sOk_app (a b : Str) : PyData.strOk (a ++ b) = (PyData.strOk a && PyData.strOk b) := by
  show (a.cps ++ b.cps).all _ = _
  simp only [Array.all_append]
  rfl
theorem sOk_of (t : String) : PyData.strOk (Str.ofString t) = true := by
  rw [Str.ofString_eq_toList]
  show (List.toArray _).all _ = true
  simp only [List.all_toArray, List.all_map, List.all_eq_true, Function.comp_def, decide_eq_true_eq]
  intro c _
  have := c.valid
  unfold UInt32.isValidChar Nat.isValidChar at this
  show c.val.toNat < _
  omega
theorem sOk_from : ∀ (ts : List Str) (k : Nat) (acc : Str), PyData.strOk acc = true → (∀ t ∈ ts, PyData.strOk t = true) → PyData.strOk (textFrom k acc ts) = true
  | [], k, acc, h, _ => h
  | t :: r, k, acc, h, g => by
    show PyData.strOk (textFrom (k + 1) (acc ++ (if k > 0 then ", " else "" : String) ++ t) r) = true
    refine sOk_from r _ _ ?_ fun t' ht => g t' (List.mem_cons_of_mem _ ht)
    rw [sOk_app, sOk_app, h, sOk_of, g t List.mem_cons_self]
    rfl
theorem sOk_join : ∀ (ts : List Str), (∀ t ∈ ts, PyData.strOk t = true) → PyData.strOk (Str.join ", " ts) = true
  | [], _ => by show PyData.strOk Str.empty = true; decide +kernel
  | [x], g => g x List.mem_cons_self
  | x :: y :: r, g => by
    show PyData.strOk (x ++ ", " ++ Str.join ", " (y :: r)) = true
    rw [sOk_app, sOk_app, g x List.mem_cons_self, sOk_of, sOk_join (y :: r) fun t ht => g t (List.mem_cons_of_mem _ ht)]
    rfl
def reprB (d : D) : Bool := d.showable && decide (d.depth ≤ 60) && decide (lenB d ≤ sizeLine)
/-- two texts of data that are the same -/
def neE (v w : EE) : EE := fun ρ => (v ρ).bind fun (r, ρ1) => (deref ρ1 r).bind fun x => (w ρ1).bind fun (s, ρ2) => (deref ρ2 s).bind fun y => if eqD x y && reprB x then some (.dat (.bool false), ρ2) else none
end DL
/-! DL38: expressions, run, and their meaning. -/
namespace DL
open PySem PySem.Spec PyProof.Rows L2
def evA : List Ev → Rho → Option (List Rs × Rho)
  | [], ρ => some ([], ρ)
  | v :: vs, ρ => (v.e ρ).bind fun (r, ρ1) => (evA vs ρ1).bind fun (rs, ρ2) => some (r :: rs, ρ2)
def okSlE : Rho → Nat → Bool := fun ρ i => R.okSl (gt ρ i)
def asnE : Tn → D → Rho → Option Rho
  | .name i, d, ρ => if okSlE ρ i then some (ρ.set i (some (.dat d))) else none
  | .tup [.name i, .name j], .tuple [a, b], ρ => if okSlE ρ i && okSlE ρ j then some ((ρ.set i (some (.dat a))).set j (some (.dat b))) else none
  | .tup [.name i, .name j, .name l], .tuple [a, b, c], ρ => if okSlE ρ i && okSlE ρ j && okSlE ρ l then some (((ρ.set i (some (.dat a))).set j (some (.dat b))).set l (some (.dat c))) else none
  | _, _, _ => none
def ckE : Option (Nat × List D) → Rho → Bool
  | none => fun _ => true
  | some (i, xs) => fun ρ => match gt ρ i with
    | some (.own _ ys) => eqDs ys xs
    | some (.dat (.list ys)) => eqDs ys xs
    | _ => false
def compE (g : D → Rho → Option Rho) (tt : Rho → Option (Bool × Rho)) (te : EE) (ck : Rho → Bool) (own : List Nat) : List D → List D → Rho → Option (List D × Rho)
  | [], acc, ρ => if ck ρ then some (acc, ρ) else none
  | x :: xs, acc, ρ => if ck ρ then (g x ρ).bind fun ρ1 => (tt ρ1).bind fun (b, ρ2) => match b with
      | true => (te ρ2).bind fun (r, ρ3) => (escE r ρ3).bind fun (d, ρ4) => compE g tt te ck own xs (acc ++ [d]) (wipeR ρ4 own)
      | false => compE g tt te ck own xs acc (wipeR ρ2 own)
    else none
def noOwnE (ρ : Rho) (is : List Nat) : Bool := is.all fun i => match gt ρ i with
  | some (.own _ _) => false
  | _ => true
def optE (w : Option Ev) : Rho → Option (Option Int × Rho) := match w with
  | none => fun ρ => some (none, ρ)
  | some v => fun ρ => match v.e ρ with
    | some (.dat (.int i), ρ1) => some (some i, ρ1)
    | _ => none
def rngE : List D → Option (List D)
  | [.int n] => if decide (-(2 ^ 62) ≤ n) && decide (n < 2 ^ 62) && decide (n.toNat ≤ 1000) then some ((List.range n.toNat).map fun (i : Nat) => PyData.int i) else none
  | [.int a, .int b] => if decide (-(2 ^ 62) ≤ a) && decide (a < 2 ^ 62) && decide (-(2 ^ 62) ≤ b) && decide (b < 2 ^ 62) && decide ((b - a).toNat ≤ 1000) then some ((List.range (b - a).toNat).map fun (i : Nat) => PyData.int (a + i)) else none
  | _ => none
def slcE : D → Option Int → Option Int → Option Rs
  | .list xs, lo, hi => some (.own (cutD xs lo hi))
  | .tuple xs, lo, hi => some (.dat (.tuple (cutD xs lo hi)))
  | _, _, _ => none
def noE : EE := fun _ => none
def Ev.no : Ev := ⟨noE, fun _ => none, fun _ => none, fun _ => none, none⟩
def cmpEv (o : C2) (x y : Option EE) (g : EE) : EE := match o, x, y with
  | .ne, some v, some w => neE v w
  | _, _, _ => g
def reprR (b : Bi) (vs : List Ev) : Option EE := match b, vs with
  | .repr, [v] => some v.e
  | _, _ => none
mutual
def ev (C : CF) : Ex → Ev
  | .lit d => .of fun ρ => some (.dat d, ρ)
  | .con _ d => .of fun ρ => some (.dat d, ρ)
  | .var i => .of fun ρ => match gt ρ i with
    | some (.dat d) => some (.dat d, ρ)
    | some (.own _ _) => some (.ref i, ρ)
    | none => none
  | .op2 o a b => .of fun ρ => ((ev C a).e ρ).bind fun (r, ρ1) => ((ev C b).e ρ1).bind fun (s, ρ2) => (deref ρ2 r).bind fun x => (deref ρ2 s).bind fun y => (op2E o x y).bind fun z => some (z, ρ2)
  | .repL es n => .of fun ρ => (evA (evs C es) ρ).bind fun (rs, ρ1) => (escsE rs ρ1).bind fun (ds, ρ2) => match (ev C n).e ρ2 with
    | some (.dat (.int j), ρ3) => if decide (-(2 ^ 63) ≤ j) && decide (j < 2 ^ 63) && decide (ds.length * j.toNat ≤ sizeLine) then some (.own (List.replicate j.toNat ds).flatten, ρ3) else none
    | _ => none
  | .cmp o a b => .of (cmpEv o (ev C a).r (ev C b).r fun ρ => ((ev C a).e ρ).bind fun (r, ρ1) => ((ev C b).e ρ1).bind fun (s, ρ2) => (deref ρ2 r).bind fun x => (deref ρ2 s).bind fun y => (cmpE o x y).bind fun z => some (.dat (.bool z), ρ2))
  | .isN a => .of fun ρ => ((ev C a).e ρ).bind fun (r, ρ1) => (deref ρ1 r).bind fun x => some (.dat (.bool (isNone x)), ρ1)
  | .notN a => .of fun ρ => ((ev C a).e ρ).bind fun (r, ρ1) => (deref ρ1 r).bind fun x => some (.dat (.bool (!isNone x)), ρ1)
  | .chain o o' a b c => .of fun ρ => ((ev C a).e ρ).bind fun (r, ρ1) => ((ev C b).e ρ1).bind fun (s, ρ2) => (deref ρ2 r).bind fun x => (deref ρ2 s).bind fun y => (cmpE o x y).bind fun z => match z with
    | true => ((ev C c).e ρ2).bind fun (t, ρ3) => (deref ρ3 s).bind fun y' => (deref ρ3 t).bind fun u => (cmpE o' y' u).bind fun q => some (.dat (.bool q), ρ3)
    | false => some (.dat (.bool false), ρ2)
  | .neg a => .of fun ρ => match (ev C a).e ρ with
    | some (.dat (.int i), ρ1) => some (.dat (.int (-i)), ρ1)
    | _ => none
  | .not a => ⟨fun ρ => match (ev C a).e ρ with
      | some (.dat (.bool b), ρ1) => some (.dat (.bool (!b)), ρ1)
      | _ => none, fun ρ => ((ev C a).t ρ).bind fun (b, ρ1) => some (!b, ρ1), fun _ => none, fun _ => none, none⟩
  | .and a b => ⟨fun ρ => match (ev C a).e ρ with
      | some (.dat (.bool true), ρ1) => (ev C b).e ρ1
      | some (.dat (.bool false), ρ1) => some (.dat (.bool false), ρ1)
      | _ => none, fun ρ => ((ev C a).t ρ).bind fun (c, ρ1) => (match c with
        | true => (ev C b).t ρ1
        | false => some (false, ρ1)), fun _ => none, fun _ => none, none⟩
  | .or a b => ⟨fun ρ => match (ev C a).e ρ with
      | some (.dat (.bool true), ρ1) => some (.dat (.bool true), ρ1)
      | some (.dat (.bool false), ρ1) => (ev C b).e ρ1
      | _ => none, fun ρ => ((ev C a).t ρ).bind fun (c, ρ1) => (match c with
        | true => some (true, ρ1)
        | false => (ev C b).t ρ1), fun _ => none, fun _ => none, none⟩
  | .ife c a b => .of fun ρ => ((ev C c).t ρ).bind fun (q, ρ1) => match q with
    | true => (ev C a).e ρ1
    | false => (ev C b).e ρ1
  | .tup es => .of fun ρ => (evA (evs C es) ρ).bind fun (rs, ρ1) => (escsE rs ρ1).bind fun (ds, ρ2) => some (.dat (.tuple ds), ρ2)
  | .lst es => .of fun ρ => (evA (evs C es) ρ).bind fun (rs, ρ1) => (escsE rs ρ1).bind fun (ds, ρ2) => some (.own ds, ρ2)
  | .idx a b => .of fun ρ => ((ev C a).e ρ).bind fun (r, ρ1) => ((ev C b).e ρ1).bind fun (s, ρ2) => (deref ρ2 r).bind fun x => (deref ρ2 s).bind fun y => (idxE x y).bind fun z => some (.dat z, ρ2)
  | .slc a lo hi => .of fun ρ => ((ev C a).e ρ).bind fun (r, ρ1) => (optE (evo C lo) ρ1).bind fun (i, ρ2) => (optE (evo C hi) ρ2).bind fun (j, ρ3) => (deref ρ3 r).bind fun x => (slcE x i j).bind fun z => some (z, ρ3)
  | .call f es => .of fun ρ => (evA (evs C es) ρ).bind fun (rs, ρ1) => (escsE rs ρ1).bind fun (ds, ρ2) => (C f (ds.map .dat)).bind fun (r, _) => some (r, ρ2)
  | .callK f _ es => .of fun ρ => (evA (evs C es) ρ).bind fun (rs, ρ1) => (escsE rs ρ1).bind fun (ds, ρ2) => (C f (ds.map .dat)).bind fun (r, _) => some (r, ρ2)
  | .bi b es => { Ev.of (fun ρ => (evA (evs C es) ρ).bind fun (rs, ρ1) => (derefs ρ1 rs).bind fun ds => (biEE b ds).bind fun z => some (z, ρ1)) with r := reprR b (evs C es) }
  | .comp elt tg it ifs own => .of fun ρ => ((ev C it).i ρ).bind fun (xs, c, ρ1) => match noOwnE ρ1 own with
    | true => (compE (asnE tg) (match evo C ifs with
        | none => fun ρ => some (true, ρ)
        | some w => w.t) (ev C elt).e (ckE c) own xs [] (wipeR ρ1 own)).bind fun (acc, ρ2) => some (.own acc, restR ρ1 ρ2 own)
    | false => none
  | .listR es => .of fun ρ => (evA (evs C es) ρ).bind fun (rs, ρ1) => (derefs ρ1 rs).bind fun ds => (rngE ds).bind fun xs => some (.own xs, ρ1)
  | .range es => ⟨noE, fun _ => none, fun ρ => (evA (evs C es) ρ).bind fun (rs, ρ1) => (derefs ρ1 rs).bind fun ds => (rngE ds).bind fun xs => some (xs, none, ρ1),
      fun ρ => (evA (evs C es) ρ).bind fun (rs, ρ1) => (derefs ρ1 rs).bind fun ds => (rngE ds).bind fun xs => some (xs, ρ1), none⟩
  | .enum a => ⟨noE, fun _ => none, fun ρ => (iOf (ev C a).e ρ).bind fun (xs, c, ρ1) => some (enumD xs, c, ρ1), fun ρ => (fOf (ev C a).e ρ).bind fun (xs, ρ1) => some (enumD xs, ρ1), none⟩
  | .callIo _ _ _ => .no
  | .zip _ _ => .no
  | .listZ _ _ => .no
  | .rev _ => .no
  | .pop _ _ => .no
  | .index _ _ => .no
  | .count _ _ => .no
def evs (C : CF) : List Ex → List Ev
  | [] => []
  | e :: es => ev C e :: evs C es
def evo (C : CF) : Option Ex → Option Ev
  | none => none
  | some e => some (ev C e)
end
theorem EvOk.no {w : W4} : EvOk .no w := ⟨fun h => (by cases h), fun h => (by cases h), fun h => (by cases h), fun h => (by cases h), fun h => (by cases h)⟩
end DL
/-! DL39: expressions that were run mean what came out. -/
namespace DL
open PySem PySem.Spec PyProof.Rows L2
end DL
/-! DL40: statements and defs, run. -/
namespace DL
open PySem PySem.Spec PyProof.Rows L2
inductive Ot where
  | nx (ρ : Rho) | rt (r : Rs) (ρ : Rho) | bk (ρ : Rho) | ct (ρ : Rho)
def ownE (ρ : Rho) (i : Nat) : Bool := match gt ρ i with
  | some (.own _ _) => true
  | _ => false
mutual
def asgE (C : CF) : Ta → Rs → Rho → Option Rho
  | .name i, r, ρ => if okSlE ρ i then (match r with
      | .dat d => some (ρ.set i (some (.dat d)))
      | .own xs => some (ρ.set i (some (.own false xs)))
      | .ref j => (escE (.ref j) ρ).bind fun (d, ρ1) => some (ρ1.set i (some (.dat d)))) else none
  | .sub i ix, r, ρ => (escE r ρ).bind fun (d, ρ1) => if ownE ρ1 i then (match (ev C ix).e ρ1 with
      | some (.dat (.int j), ρ2) => (match gt ρ2 i with
        | some (.own b xs) => (ixN xs.length j).bind fun n => some (ρ2.set i (some (.own b (xs.set n d))))
        | _ => none)
      | _ => none) else none
  | .tup ts, r, ρ => match r with
    | .dat (.tuple ds) => if decide (ds.length = ts.length) then asgsE C ts (ds.map .dat) ρ else none
    | _ => none
def asgsE (C : CF) : List Ta → List Rs → Rho → Option Rho
  | [], rs, ρ => match rs with
    | [] => some ρ
    | _ => none
  | t :: ts, rs, ρ => match rs with
    | r :: rs => (asgE C t r ρ).bind fun ρ1 => asgsE C ts rs ρ1
    | [] => none
end
def settleE : List Rs → Rho → Option (List Rs × Rho)
  | [], ρ => some ([], ρ)
  | .ref i :: rs, ρ => (escE (.ref i) ρ).bind fun (d, ρ1) => (settleE rs ρ1).bind fun (rs', ρ2) => some (.dat d :: rs', ρ2)
  | .dat d :: rs, ρ => (settleE rs ρ).bind fun (rs', ρ2) => some (.dat d :: rs', ρ2)
  | .own d :: rs, ρ => (settleE rs ρ).bind fun (rs', ρ2) => some (.own d :: rs', ρ2)
def forE (t : Tn) (b : Rho → Option Ot) : List D → Rho → Option Ot
  | [], ρ => some (.nx ρ)
  | x :: xs, ρ => (asnE t x ρ).bind fun ρ1 => (b ρ1).bind fun o => match o with
    | .nx ρ2 => forE t b xs ρ2
    | .ct ρ2 => forE t b xs ρ2
    | .bk ρ2 => some (.nx ρ2)
    | .rt r ρ2 => some (.rt r ρ2)
mutual
def run (C : CF) : Sm → Rho → Option Ot
  | .asg t e => fun ρ => ((ev C e).e ρ).bind fun (r, ρ1) => (asgE C t r ρ1).bind fun ρ2 => some (.nx ρ2)
  | .par ts es => fun ρ => (evA (evs C es) ρ).bind fun (rs, ρ1) => (settleE rs ρ1).bind fun (rs', ρ2) => (asgsE C ts rs' ρ2).bind fun ρ3 => some (.nx ρ3)
  | .expr e => fun ρ => ((ev C e).e ρ).bind fun (_, ρ1) => some (.nx ρ1)
  | .app i e => fun ρ => if ownE ρ i then ((ev C e).e ρ).bind fun (r, ρ1) => (escE r ρ1).bind fun (x, ρ2) => (match gt ρ2 i with
    | some (.own b xs) => if decide (xs.length < sizeLine) then some (.nx (ρ2.set i (some (.own b (xs ++ [x]))))) else none
    | _ => none) else none
  | .ext i e => fun ρ => if ownE ρ i then ((ev C e).e ρ).bind fun (r, ρ1) => (match r with
    | .own ys => (match gt ρ1 i with
      | some (.own b xs) => if decide (xs.length + ys.length ≤ sizeLine) then some (.nx (ρ1.set i (some (.own b (xs ++ ys))))) else none
      | _ => none)
    | _ => none) else none
  | .ret e => fun ρ => ((ev C e).e ρ).bind fun (r, ρ1) => some (.rt r ρ1)
  | .retN => fun ρ => some (.rt (.dat .none) ρ)
  | .ite c a b => fun ρ => ((ev C c).t ρ).bind fun (q, ρ1) => (match q with
    | true => runs C a ρ1
    | false => runs C b ρ1)
  | .for_ t it b => fun ρ => ((ev C it).f ρ).bind fun (xs, ρ1) => forE t (runs C b) xs ρ1
  | .brk => fun ρ => some (.bk ρ)
  | .cont => fun ρ => some (.ct ρ)
  | .pass => fun ρ => some (.nx ρ)
  | .aug _ _ _ => fun _ => none
  | .ins _ _ _ => fun _ => none
  | .while_ _ _ => fun _ => none
  | .raise_ _ _ => fun _ => none
def runs (C : CF) : List Sm → Rho → Option Ot
  | [] => fun ρ => some (.nx ρ)
  | s :: ss => fun ρ => (run C s ρ).bind fun o => match o with
    | .nx ρ1 => runs C ss ρ1
    | o => some o
end
end DL
/-! DL41: more rules; texts of data by their size; equality of data. -/
namespace DL
open PySem PySem.Spec PyProof.Rows L2
/-! ### texts -/
mutual
def lenC : D → Nat
  | .none => 4
  | .bool _ => 5
  | .int _ => 1922
  | .str _ => 33554432
  | .list xs => lenCs xs + 3
  | .tuple xs => lenCs xs + 4
  | .dict _ => 33554432
def lenCs : List D → Nat
  | [] => 0
  | x :: xs => lenC x + 2 + lenCs xs
end
theorem int_shown {i : Int} (h : i.natAbs.log2 < 1920) : (PyData.shown (.int i)).length ≤ 1922 := by
  have := int_text_length_le (k := 1920) (by decide) h
  show (Str.ofString (toString i)).length ≤ 1922
  rw [Str.ofString_eq_toList]
  show (List.toArray _).size ≤ 1922
  simp only [List.size_toArray, List.length_map]
  have e : (toString i).toList.length = (toString i).length := String.length_toList ..
  omega
mutual
theorem lenC_ok : ∀ d : D, d.showable = true → lenC d < 33554432 → d.shown.length ≤ lenC d
  | .none, _, _ => by show (Str.ofString "None").length ≤ 4; exact Nat.le_of_eq rfl
  | .bool b, _, _ => by
    cases b
    · show (Str.ofString "False").length ≤ 5; exact Nat.le_of_eq rfl
    · show (Str.ofString "True").length ≤ 5; exact Nat.le_trans (Nat.le_of_eq rfl) (by decide : 4 ≤ 5)
  | .int i, g, h => int_shown (by simpa [PyData.showable] using g)
  | .str _, _, h => by simp only [lenC] at h; omega
  | .list xs, g, h => by
    simp only [lenC] at h ⊢
    simp only [PyData.shown]
    simp only [PyData.showable] at g
    have := lenCs_ok xs g (by omega)
    have := listText_le (PyData.shownAll xs)
    omega
  | .tuple xs, g, h => by
    simp only [lenC] at h ⊢
    simp only [PyData.shown]
    simp only [PyData.showable] at g
    have := lenCs_ok xs g (by omega)
    have := tupleText_le (PyData.shownAll xs)
    omega
  | .dict _, _, h => by simp only [lenC] at h; omega
theorem lenCs_ok : ∀ xs : List D, PyData.showableAll xs = true → lenCs xs < 33554432 → piled (PyData.shownAll xs) ≤ lenCs xs
  | [], _, _ => by simp [PyData.shownAll, piled, lenCs]
  | x :: xs, g, h => by
    simp only [lenCs] at h ⊢
    simp only [PyData.showableAll, Bool.and_eq_true] at g
    have := lenC_ok x g.1 (by omega)
    have := lenCs_ok xs g.2 (by omega)
    have p : piled (PyData.shownAll (x :: xs)) = x.shown.length + 2 + piled (PyData.shownAll xs) := by simp only [PyData.shownAll]; first | rfl | (simp [piled]) | (simp [piled]; omega)
    omega
end
mutual
theorem sOkC_shown : ∀ d : D, lenC d < 33554432 → PyData.strOk d.shown = true
  | .none, _ => sOk_of _
  | .bool b, _ => by cases b <;> exact sOk_of _
  | .int i, _ => sOk_of _
  | .str _, h => by simp only [lenC] at h; omega
  | .list xs, h => by
    simp only [lenC] at h
    simp only [PyData.shown, listText]
    rw [sOk_app, sOk_of, sOk_from _ _ _ (sOk_of _) (sOkC_all xs (by omega))]
    rfl
  | .tuple xs, h => by
    simp only [lenC] at h
    simp only [PyData.shown, tupleText]
    rw [sOk_app, sOk_app, sOk_of, sOk_of, sOk_join _ (sOkC_all xs (by omega))]
    rfl
  | .dict _, h => by simp only [lenC] at h; omega
theorem sOkC_all : ∀ xs : List D, lenCs xs < 33554432 → ∀ t ∈ PyData.shownAll xs, PyData.strOk t = true
  | [], _, t, ht => by simp [PyData.shownAll] at ht
  | x :: xs, h, t, ht => by
    simp only [lenCs] at h
    simp only [PyData.shownAll, List.mem_cons] at ht
    rcases ht with rfl | ht
    · exact sOkC_shown x (by omega)
    · exact sOkC_all xs (by omega) t ht
end
/-- a text of at most L signs, e deep; no texts in it; equality and texts are told -/
structure Sh (e L : Nat) (d : D) : Prop where
  sh : d.showable = true
  dp : d.depth ≤ e
  ln : lenC d ≤ L
  cl : d.canLay0 = true
theorem Sh.mono {e L e' L' : Nat} {d : D} (h : Sh e L d) (he : e ≤ e') (hl : L ≤ L') : Sh e' L' d := ⟨h.sh, Nat.le_trans h.dp he, Nat.le_trans h.ln hl, h.cl⟩
theorem sh_none : Sh 0 4 .none := ⟨rfl, by simp [PyData.depth], by simp [lenC], rfl⟩
theorem sh_bool (b : Bool) : Sh 0 5 (.bool b) := ⟨rfl, by simp [PyData.depth], by simp [lenC], rfl⟩
theorem sh_int {i : Int} (h : i.natAbs < 2 ^ 1920) : Sh 0 1922 (.int i) := by
  refine ⟨?_, by simp [PyData.depth], by simp [lenC], rfl⟩
  simp only [PyData.showable, decide_eq_true_eq]
  by_cases q : i.natAbs = 0
  · rw [q]; decide
  · exact (Nat.log2_lt q).mpr h
theorem shs {e L : Nat} : ∀ {xs : List D}, (∀ x ∈ xs, Sh e L x) → PyData.showableAll xs = true ∧ PyData.depthAll xs ≤ e ∧ lenCs xs ≤ xs.length * (L + 2) ∧ PyData.canLayAll0 xs = true
  | [], _ => ⟨rfl, by simp [PyData.depthAll], by simp [lenCs], rfl⟩
  | x :: xs, h => by
    obtain ⟨a, b, c, d⟩ := shs (xs := xs) fun y hy => h y (List.mem_cons_of_mem _ hy)
    have g := h x List.mem_cons_self
    refine ⟨by simp [PyData.showableAll, a, g.sh], ?_, ?_, by simp [PyData.canLayAll0, d, g.cl]⟩
    · have := g.dp
      simp only [PyData.depthAll]; omega
    · have := g.ln
      simp only [lenCs, List.length_cons, Nat.add_mul]; omega
theorem sh_list {e L : Nat} {xs : List D} (h : ∀ x ∈ xs, Sh e L x) : Sh (e + 1) (xs.length * (L + 2) + 4) (.list xs) := by
  obtain ⟨a, b, c, d⟩ := shs h
  exact ⟨by simpa [PyData.showable] using a, by simp only [PyData.depth]; omega, by simp only [lenC]; omega, by simpa [PyData.canLay0] using d⟩
theorem sh_tup {e L : Nat} {xs : List D} (h : ∀ x ∈ xs, Sh e L x) : Sh (e + 1) (xs.length * (L + 2) + 4) (.tuple xs) := by
  obtain ⟨a, b, c, d⟩ := shs h
  exact ⟨by simpa [PyData.showable] using a, by simp only [PyData.depth]; omega, by simp only [lenC]; omega, by simpa [PyData.canLay0] using d⟩
theorem Sh.repr {e L : Nat} {d : D} (h : Sh e L d) (he : e ≤ 60) (hl : L ≤ 16777216) : ReprOk d := by
  have := h.dp
  have := h.ln
  refine ⟨h.sh, by omega, ?_⟩
  have := lenC_ok d h.sh (by omega)
  rw [sizeLine_eq]; omega
theorem Sh.shp {e L : Nat} {d : D} (h : Sh e L d) (he : e ≤ 60) : shp d := by
  have := h.dp
  unfold DL.shp SeqAt.shaped
  rw [h.cl, Bool.true_and, decide_eq_true_eq]; omega
theorem Sh.shpT {e L : Nat} {d : D} (h : Sh e L d) (hl : L ≤ 16777216) : DL.shp (.str d.shown) := by
  have := h.ln
  unfold DL.shp SeqAt.shaped
  simp only [PyData.canLay0, PyData.depth]
  rw [sOkC_shown d (by omega)]
  rfl
/-! ### equality -/
mutual
/-- no bools, texts, dicts -/
def tame : D → Bool
  | .none | .int _ => true
  | .list xs | .tuple xs => tames xs
  | _ => false
def tames : List D → Bool
  | [] => true
  | x :: xs => tame x && tames xs
end
mutual
theorem eqv_tame : ∀ x y : D, tame x = true → tame y = true → (PyData.eqv x y = true ↔ x = y)
  | .none, .none, _, _ => by simp [PyData.eqv]
  | .int i, .int j, _, _ => by simp [PyData.eqv]
  | .list xs, .list ys, h, g => by
    simp only [tame] at h g
    simp only [PyData.eqv, eqv_tames xs ys h g, PyData.list.injEq]
  | .tuple xs, .tuple ys, h, g => by
    simp only [tame] at h g
    simp only [PyData.eqv, eqv_tames xs ys h g, PyData.tuple.injEq]
  | .none, .int _, _, _ | .none, .list _, _, _ | .none, .tuple _, _, _ | .int _, .none, _, _ | .int _, .list _, _, _ | .int _, .tuple _, _, _ | .list _, .none, _, _ | .list _, .int _, _, _ | .list _, .tuple _, _, _ | .tuple _, .none, _, _ | .tuple _, .int _, _, _ | .tuple _, .list _, _, _ => by simp [PyData.eqv]
  | .bool _, _, h, _ | .str _, _, h, _ | .dict _, _, h, _ => by simp [tame] at h
  | .none, .bool _, _, g | .none, .str _, _, g | .none, .dict _, _, g | .int _, .bool _, _, g | .int _, .str _, _, g | .int _, .dict _, _, g
  | .list _, .bool _, _, g | .list _, .str _, _, g | .list _, .dict _, _, g | .tuple _, .bool _, _, g | .tuple _, .str _, _, g | .tuple _, .dict _, _, g => by simp [tame] at g
theorem eqv_tames : ∀ xs ys : List D, tames xs = true → tames ys = true → (PyData.eqvAll xs ys = true ↔ xs = ys)
  | [], [], _, _ => by simp [PyData.eqvAll]
  | [], y :: ys, _, _ => by simp [PyData.eqvAll]
  | x :: xs, [], _, _ => by simp [PyData.eqvAll]
  | x :: xs, y :: ys, h, g => by
    simp only [tames, Bool.and_eq_true] at h g
    simp only [PyData.eqvAll, Bool.and_eq_true, eqv_tame x y h.1 g.1, eqv_tames xs ys h.2 g.2, List.cons.injEq]
end
theorem eqv_str (s : Str) : PyData.eqv (.str s) (.str s) = true := by simp [PyData.eqv]
namespace R
variable {Γ : Gam} {E : Xn → Prop} {ρ : Rho} {Q : Rs → Rho → Prop}
theorem ienum {a : Ex} {k : List D → (Rho → Prop) → Rho → Prop} (h : (wp Γ a).e E ρ (iAt fun xs ck ρ1 => k (enumD xs) ck ρ1)) : (wp Γ (.enum a)).i E ρ k := by simp only [wp]; exact h
theorem fenum {a : Ex} {k : List D → (Rho → Prop) → Rho → Prop} (h : (wp Γ a).e E ρ fun r ρ1 => esc r ρ1 (fSeq fun xs ck ρ1 => k (enumD xs) ck ρ1)) : (wp Γ (.enum a)).f E ρ k := by simp only [wp]; exact h
theorem irev {a : Ex} {k : List D → (Rho → Prop) → Rho → Prop} (h : (wp Γ a).e E ρ (iAt fun xs ck ρ1 => k xs.reverse ck ρ1)) : (wp Γ (.rev a)).i E ρ k := by simp only [wp]; exact h
theorem frev {a : Ex} {k : List D → (Rho → Prop) → Rho → Prop} (h : (wp Γ a).e E ρ fun r ρ1 => esc r ρ1 (fSeq fun xs ck ρ1 => k xs.reverse ck ρ1)) : (wp Γ (.rev a)).f E ρ k := by simp only [wp]; exact h
def zipAt (k : List D → (Rho → Prop) → Rho → Prop) : List D → Rho → Prop := fun ds ρ2 => match ds with
  | [d, d'] => match seqD d, seqD d' with
    | some xs, some ys => k (zipD xs ys) (fun _ => True) ρ2
    | _, _ => False
  | _ => False
theorem izip {a b : Ex} {k : List D → (Rho → Prop) → Rho → Prop} (h : eL (wps Γ [a, b]) E ρ fun rs ρ1 => escs rs ρ1 (zipAt k)) : (wp Γ (.zip a b)).i E ρ k := by simp only [wp]; simp only [wps] at h; exact h
theorem fzip {a b : Ex} {k : List D → (Rho → Prop) → Rho → Prop} (h : eL (wps Γ [a, b]) E ρ fun rs ρ1 => escs rs ρ1 (zipAt k)) : (wp Γ (.zip a b)).f E ρ k := by simp only [wp]; simp only [wps] at h; exact h
theorem zip_at {k : List D → (Rho → Prop) → Rho → Prop} {d d' : D} {xs ys : List D} (g : seqD d = some xs) (g' : seqD d' = some ys) (h : k (zipD xs ys) (fun _ => True) ρ) : zipAt k [d, d'] ρ := by simp only [zipAt, g, g']; exact h
/-- repr(x) != repr(y) of the same things -/
theorem repr_ne {e L : Nat} {d : D} (h : Sh e L d) (he : e ≤ 60) (hl : L ≤ 16777216) {kb : Bool → Prop} (q : kb false) : cmpD .ne (.str d.shown) (.str d.shown) kb :=
  ⟨h.shpT hl, h.shpT hl, by rw [eqv_str]; exact q⟩
theorem eq_tame {x y : D} {c : Bool} {kb : Bool → Prop} (a : shp x) (b : shp y) (t : tame x = true) (u : tame y = true) (hc : x = y ↔ c = true) (h : kb c) : cmpD .eq x y kb := by
  refine ⟨a, b, ?_⟩
  have : PyData.eqv x y = c := by rw [Bool.eq_iff_iff, eqv_tame x y t u, hc]
  rw [this]; exact h
theorem ne_tame {x y : D} {c : Bool} {kb : Bool → Prop} (a : shp x) (b : shp y) (t : tame x = true) (u : tame y = true) (hc : x = y ↔ c = true) (h : kb (!c)) : cmpD .ne x y kb := by
  refine ⟨a, b, ?_⟩
  have : PyData.eqv x y = c := by rw [Bool.eq_iff_iff, eqv_tame x y t u, hc]
  rw [this]; exact h
theorem eq_i {i j : Int} {kb : Bool → Prop} (h : kb (decide (i = j))) : cmpD .eq (.int i) (.int j) kb := by
  refine ⟨by unfold DL.shp; rfl, by unfold DL.shp; rfl, ?_⟩
  have : PyData.eqv (.int i) (.int j) = decide (i = j) := by simp only [PyData.eqv]; rw [Bool.eq_iff_iff]; simp
  rw [this]; exact h
theorem ne_i {i j : Int} {kb : Bool → Prop} (h : kb (!decide (i = j))) : cmpD .ne (.int i) (.int j) kb := by
  refine ⟨by unfold DL.shp; rfl, by unfold DL.shp; rfl, ?_⟩
  have : PyData.eqv (.int i) (.int j) = decide (i = j) := by simp only [PyData.eqv]; rw [Bool.eq_iff_iff]; simp
  rw [this]; exact h
theorem sretN {d : DEn} (h : d.rt (.dat .none) ρ) : wpS Γ .retN E d ρ := by simp only [wpS]; exact h
theorem swhile {c : Ex} {b : List Sm} {d : DEn} (I : Nat → Rho → Prop) (m0 : Nat) (h0 : I m0 ρ) (hs : ∀ m ρ, I m ρ →
    (wp Γ c).t E ρ fun q ρ1 => if q = true then wpSs Γ b E { nx := fun ρ' => ∃ m', m' < m ∧ I m' ρ', ct := fun ρ' => ∃ m', m' < m ∧ I m' ρ', bk := d.nx, rt := d.rt } ρ1 else d.nx ρ1) : wpS Γ (.while_ c b) E d ρ := by
  simp only [wpS]
  exact ⟨I, ⟨m0, h0⟩, hs⟩
theorem iteN {c : Prop} [Decidable c] {p q : Prop} (h1 : ¬ c → p) (h2 : c → q) : if (!decide c) = true then p else q := by
  by_cases g : c
  · rw [if_neg (by simp [g])]; exact h2 g
  · rw [if_pos (by simp [g])]; exact h1 g
theorem iteB {c : Bool} {p q : Prop} (h1 : c = true → p) (h2 : c = false → q) : if c = true then p else q := by
  cases c
  · exact h2 rfl
  · exact h1 rfl
end R
/-! ### comprehensions and loops over lists that are images -/
section
variable {α : Type}
theorem comp_l {i : Nat} {te : DTE} {ck : Rho → Prop} {q : List D → Rho → Prop} {ρ0 : Rho} (g f : α → D) (hi : gt ρ0 i = none) (hw : ∀ d : D, (ρ0.set i (some (.dat d))).set i none = ρ0) (hck : ck ρ0) :
    ∀ (l : List α) (acc : List D), (∀ x ∈ l, ∀ nx : D → Rho → Prop, nx (f x) (ρ0.set i (some (.dat (g x)))) → te (fun _ => False) (ρ0.set i (some (.dat (g x)))) fun r ρ3 => esc r ρ3 nx) → q (acc ++ l.map f) ρ0 → compL (asnN (.name i)) (fun _ ρ Q => Q true ρ) te ck [i] q (l.map g) acc ρ0
  | [], acc, _, h => by
    simp only [List.map, compL]
    exact ⟨hck, by simpa using h⟩
  | x :: xs, acc, he, h => by
    simp only [List.map, compL]
    refine ⟨hck, R.an_name (R.nio hi rfl) ?_⟩
    rw [if_pos (by trivial)]
    refine he x List.mem_cons_self _ ?_
    simp only [wipeR, hw]
    exact comp_l g f hi hw hck xs _ (fun y hy => he y (List.mem_cons_of_mem _ hy)) (by simpa using h)
/-- with a condition -/
theorem comp_if {i : Nat} {tt : DTT} {te : DTE} {ck : Rho → Prop} {q : List D → Rho → Prop} {ρ0 : Rho} (g f : α → D) (p : α → Bool) (hi : gt ρ0 i = none) (hw : ∀ d : D, (ρ0.set i (some (.dat d))).set i none = ρ0) (hck : ck ρ0) :
    ∀ (l : List α) (acc : List D), (∀ x ∈ l, ∀ nx : Bool → Rho → Prop, nx (p x) (ρ0.set i (some (.dat (g x)))) → tt (fun _ => False) (ρ0.set i (some (.dat (g x)))) nx) →
      (∀ x ∈ l, p x = true → ∀ nx : D → Rho → Prop, nx (f x) (ρ0.set i (some (.dat (g x)))) → te (fun _ => False) (ρ0.set i (some (.dat (g x)))) fun r ρ3 => esc r ρ3 nx) →
      q (acc ++ (l.filter p).map f) ρ0 → compL (asnN (.name i)) tt te ck [i] q (l.map g) acc ρ0
  | [], acc, _, _, h => by
    simp only [List.map, compL]
    exact ⟨hck, by simpa using h⟩
  | x :: xs, acc, ht, he, h => by
    simp only [List.map, compL]
    refine ⟨hck, R.an_name (R.nio hi rfl) ?_⟩
    refine ht x List.mem_cons_self _ ?_
    cases e : p x with
    | true =>
      rw [if_pos rfl]
      refine he x List.mem_cons_self e _ ?_
      simp only [wipeR, hw]
      exact comp_if g f p hi hw hck xs _ (fun y hy => ht y (List.mem_cons_of_mem _ hy)) (fun y hy => he y (List.mem_cons_of_mem _ hy)) (by simpa [List.filter_cons, e] using h)
    | false =>
      rw [if_neg (by simp)]
      simp only [wipeR, hw]
      exact comp_if g f p hi hw hck xs _ (fun y hy => ht y (List.mem_cons_of_mem _ hy)) (fun y hy => he y (List.mem_cons_of_mem _ hy)) (by simpa [List.filter_cons, e] using h)
/-- a loop by what holds ahead of each turn: the rest of the list, a state, its slots -/
theorem for_l {σ : Type} {g : D → Rho → (Rho → Prop) → Prop} {b : DEn → Rho → Prop} {d : DEn} (emb : α → D) (st : σ → Rho) (I : List α → σ → Prop)
    (hs : ∀ x xs s nx, I (x :: xs) s → (∀ s', I xs s' → nx (st s')) → g (emb x) (st s) fun ρ1 => b { nx := nx, ct := nx, bk := d.nx, rt := d.rt } ρ1)
    (hn : ∀ s, I [] s → d.nx (st s)) : ∀ (xs : List α) (s : σ), I xs s → forL g b d (xs.map emb) (st s)
  | [], s, h => hn s h
  | x :: xs, s, h => hs x xs s (forL g b d (xs.map emb)) h fun s' h' => for_l emb st I hs hn xs s' h'
end
theorem noOwn1 {ρ : Rho} {i : Nat} (h : gt ρ i = none) : noOwn ρ [i] := fun j hj b xs e => by
  rcases List.mem_singleton.mp hj with rfl
  rw [h] at e; cases e
/-- nothing, or a datum -/
def NoOw (x : Option Sl) : Prop := x = none ∨ ∃ d, x = some (.dat d)
theorem NoOw.ok {x : Option Sl} (h : NoOw x) : R.okSl x = true := by rcases h with rfl | ⟨d, rfl⟩ <;> rfl
theorem NoOw.n : NoOw none := .inl rfl
theorem NoOw.d {d : D} : NoOw (some (.dat d)) := .inr ⟨d, rfl⟩
/-! ### rows f 0 .. f (n - 1) -/
def tab (n : Nat) (f : Nat → D) : List D := (List.range n).map f
theorem tab_len {n : Nat} {f : Nat → D} : (tab n f).length = n := by simp [tab]
theorem tab_at {n i : Nat} {f : Nat → D} (h : i < n) : atI (tab n f) (i : Int) = some (f i) := atI_nat (by simp [tab, h])
theorem tab_enum {n : Nat} {f : Nat → D} : enumD (tab n f) = tab n fun i => .tuple [.int i, f i] := by
  unfold enumD tab
  apply List.ext_getElem
  · simp
  · intro i h1 h2
    simp
theorem tames_map {α : Type} {f : α → D} : ∀ {l : List α}, (∀ x ∈ l, tame (f x) = true) → tames (l.map f) = true
  | [], _ => rfl
  | x :: xs, h => by
    simp only [List.map, tames, Bool.and_eq_true]
    exact ⟨h x List.mem_cons_self, tames_map fun y hy => h y (List.mem_cons_of_mem _ hy)⟩
end DL
namespace Mx
/-- the sum of f 0 .. f (n - 1) -/
def sm : Nat → (Nat → Rat) → Rat
  | 0, _ => 0
  | n + 1, f => sm n f + f n
theorem sm_congr {n : Nat} {f g : Nat → Rat} (h : ∀ i, i < n → f i = g i) : sm n f = sm n g := by
  induction n with
  | zero => rfl
  | succ n ih => simp only [sm]; rw [ih fun i hi => h i (by omega), h n (by omega)]
theorem sm_add (n : Nat) (f g : Nat → Rat) : sm n (fun i => f i + g i) = sm n f + sm n g := by
  induction n with
  | zero => simp only [sm]; grind
  | succ n ih => simp only [sm]; rw [ih]; grind
theorem sm_sub (n : Nat) (f g : Nat → Rat) : sm n (fun i => f i - g i) = sm n f - sm n g := by
  induction n with
  | zero => simp only [sm]; grind
  | succ n ih => simp only [sm]; rw [ih]; grind
theorem sm_mul (n : Nat) (c : Rat) (f : Nat → Rat) : sm n (fun i => c * f i) = c * sm n f := by
  induction n with
  | zero => simp only [sm]; grind
  | succ n ih => simp only [sm]; rw [ih]; grind
theorem sm_mulR (n : Nat) (c : Rat) (f : Nat → Rat) : sm n (fun i => f i * c) = sm n f * c := by
  induction n with
  | zero => simp only [sm]; grind
  | succ n ih => simp only [sm]; rw [ih]; grind
theorem sm_zero (n : Nat) : sm n (fun _ => 0) = 0 := by
  induction n with
  | zero => rfl
  | succ n ih => simp only [sm]; rw [ih]; grind
theorem sm_le {n : Nat} {f g : Nat → Rat} (h : ∀ i, i < n → f i ≤ g i) : sm n f ≤ sm n g := by
  induction n with
  | zero => simp [sm]
  | succ n ih =>
    simp only [sm]
    have a := ih fun i hi => h i (by omega)
    have b := h n (by omega)
    grind
theorem sm_nonneg {n : Nat} {f : Nat → Rat} (h : ∀ i, i < n → 0 ≤ f i) : 0 ≤ sm n f := by
  rw [← sm_zero n]; exact sm_le h
theorem sm_zero_each {n : Nat} {f : Nat → Rat} (h : ∀ i, i < n → 0 ≤ f i) (e : sm n f = 0) : ∀ i, i < n → f i = 0 := by
  induction n with
  | zero => intro i hi; omega
  | succ n ih =>
    simp only [sm] at e
    have a := sm_nonneg (n := n) fun i hi => h i (by omega)
    have b := h n (by omega)
    intro i hi
    rcases Nat.lt_succ_iff_lt_or_eq.mp hi with q | rfl
    · exact ih (fun i hi => h i (by omega)) (by grind) i q
    · grind
theorem sm_swap (n m : Nat) (f : Nat → Nat → Rat) : sm n (fun i => sm m (fun j => f i j)) = sm m (fun j => sm n (fun i => f i j)) := by
  induction n with
  | zero => simp only [sm]; rw [sm_zero]
  | succ n ih => simp only [sm]; rw [ih, sm_add]
theorem sm_single (n k : Nat) (hk : k < n) (f : Nat → Rat) : sm n (fun i => if i = k then f i else 0) = f k := by
  induction n with
  | zero => omega
  | succ n ih =>
    simp only [sm]
    by_cases q : k < n
    · rw [ih q, if_neg (by omega)]; grind
    · have : n = k := by omega
      subst this
      rw [if_pos rfl, sm_congr (g := fun _ => 0) fun i hi => if_neg (by omega), sm_zero]; grind
theorem sm_le_each {n : Nat} {f : Nat → Rat} (h : ∀ i, i < n → 0 ≤ f i) : ∀ i, i < n → f i ≤ sm n f := by
  intro k hk
  rw [← sm_single n k hk f]
  exact sm_le fun i hi => by
    by_cases q : i = k
    · rw [if_pos q]; grind
    · rw [if_neg q]; exact h i hi
/-- shares: not below 0, rows of at most 1 -/
structure Sub (n : Nat) (S : Nat → Nat → Rat) : Prop where
  nn : ∀ i j, i < n → j < n → 0 ≤ S i j
  row : ∀ i, i < n → sm n (S i) ≤ 1
/-- reaches one with a loss -/
inductive Out (n : Nat) (S : Nat → Nat → Rat) : Nat → Prop
  | loss {i : Nat} : i < n → sm n (S i) < 1 → Out n S i
  | step {i j : Nat} : i < n → j < n → S i j ≠ 0 → Out n S j → Out n S i
theorem sub_zero {n : Nat} {S : Nat → Nat → Rat} (h : Sub n S) (o : ∀ i, i < n → Out n S i) (y : Nat → Rat) (hy : ∀ i, i < n → 0 ≤ y i)
    (le : ∀ j, j < n → y j ≤ sm n (fun i => y i * S i j)) : ∀ i, i < n → y i = 0 := by
  have e1 : sm n (fun j => sm n (fun i => y i * S i j)) = sm n (fun i => y i * sm n (S i)) := by
    rw [sm_swap]; exact sm_congr fun i hi => sm_mul n (y i) (S i)
  have l1 : ∀ i, i < n → y i * sm n (S i) ≤ y i := fun i hi => by
    have := Rat.mul_le_mul_of_nonneg_left (h.row i hi) (hy i hi)
    grind
  have l2 := sm_le le
  have l3 := sm_le l1
  have z1 := sm_zero_each (f := fun i => y i - y i * sm n (S i)) (fun i hi => by have := l1 i hi; grind) (by rw [sm_sub]; grind)
  have z2 := sm_zero_each (f := fun j => sm n (fun i => y i * S i j) - y j) (fun i hi => by have := le i hi; grind) (by rw [sm_sub]; grind)
  intro i hi
  have := o i hi
  clear hi
  induction this with
  | @loss i hi q =>
    have := z1 i hi
    have : y i * (1 - sm n (S i)) = 0 := by rw [← this]; grind
    grind
  | @step i j hi hj q _ ih =>
    have a := z2 j hj
    have b := sm_zero_each (f := fun i => y i * S i j) (fun k hk => Rat.mul_nonneg (hy k hk) (h.nn k j hk hj)) (by grind) i hi
    grind
end Mx
namespace Mx
/-- reached from some -/
inductive Rch (n : Nat) (e : Nat → Nat → Bool) (U : Nat → Bool) : Nat → Prop
  | base {j : Nat} : j < n → U j = true → Rch n e U j
  | step {i j : Nat} : Rch n e U i → j < n → e i j = true → Rch n e U j
theorem Rch.lt {n : Nat} {e : Nat → Nat → Bool} {U : Nat → Bool} {j : Nat} (h : Rch n e U j) : j < n := by cases h <;> assumption
theorem Rch.trans {n : Nat} {e : Nat → Nat → Bool} {U V : Nat → Bool} (hv : ∀ i, i < n → V i = true → Rch n e U i) {j : Nat} (h : Rch n e V j) : Rch n e U j := by
  induction h with
  | base a b => exact hv _ a b
  | step _ b c ih => exact ih.step b c
/-- one step more -/
def gr (n : Nat) (e : Nat → Nat → Bool) (p : Nat → Bool) : Nat → Bool := fun j => p j || (List.range n).any fun i => p i && e i j
/-! the program's way -/
open Classical in
/-- the reached ones, ascending -/
noncomputable def rchL (n : Nat) (e : Nat → Nat → Bool) (U : Nat → Bool) : List Nat := (List.range n).filter fun j => decide (Rch n e U j)
/-! the law's way -/
def put (e : Nat → Nat → Bool) (l : List Nat) (j : Nat) : List Nat := if !l.contains j && l.any (fun i => e i j) then l ++ [j] else l
end Mx
namespace Mx
/-! elimination: rows 0 .. m - 1, columns 0 .. m (the last one: the right sides) -/
/-- solutions of the system with right sides c times the last column -/
def sol (m : Nat) (A : Nat → Nat → Rat) (c : Rat) (x : Nat → Rat) : Prop := ∀ i, i < m → sm m (fun j => A i j * x j) = c * A i m
/-- only the zero solution -/
def inj (m : Nat) (A : Nat → Nat → Rat) : Prop := ∀ x, sol m A 0 x → ∀ j, j < m → x j = 0
def units (m k : Nat) (A : Nat → Nat → Rat) : Prop := ∀ i j, i < m → j < k → A i j = if i = j then 1 else 0
/-! sizes: each entry a fraction of ints of few bits -/
theorem natAbs_mul_lt {a b : Int} {s t : Nat} (ha : a.natAbs < 2 ^ s) (hb : b.natAbs < 2 ^ t) : (a * b).natAbs < 2 ^ (s + t) := by
  rw [Int.natAbs_mul, Nat.pow_add]
  exact Nat.mul_lt_mul'' ha hb
theorem cast_ne {a : Int} (h : a ≠ 0) : (a : Rat) ≠ 0 := fun z => h (by exact_mod_cast z)
end Mx
namespace Mx
/-- where something is: reaches one with a loss -/
theorem sub_zero' {n : Nat} {S : Nat → Nat → Rat} (h : Sub n S) (y : Nat → Rat) (o : ∀ i, i < n → y i ≠ 0 → Out n S i) (hy : ∀ i, i < n → 0 ≤ y i)
    (le : ∀ j, j < n → y j ≤ sm n (fun i => y i * S i j)) : ∀ i, i < n → y i = 0 := by
  have e1 : sm n (fun j => sm n (fun i => y i * S i j)) = sm n (fun i => y i * sm n (S i)) := by
    rw [sm_swap]; exact sm_congr fun i hi => sm_mul n (y i) (S i)
  have l1 : ∀ i, i < n → y i * sm n (S i) ≤ y i := fun i hi => by
    have := Rat.mul_le_mul_of_nonneg_left (h.row i hi) (hy i hi)
    grind
  have l2 := sm_le le
  have l3 := sm_le l1
  have z1 := sm_zero_each (f := fun i => y i - y i * sm n (S i)) (fun i hi => by have := l1 i hi; grind) (by rw [sm_sub]; grind)
  have z2 := sm_zero_each (f := fun j => sm n (fun i => y i * S i j) - y j) (fun i hi => by have := le i hi; grind) (by rw [sm_sub]; grind)
  have key : ∀ i, Out n S i → i < n → y i = 0 := by
    intro i this
    induction this with
    | @loss i hi q =>
      intro _
      have := z1 i hi
      have : y i * (1 - sm n (S i)) = 0 := by rw [← this]; grind
      grind
    | @step i j hi hj q _ ih =>
      intro _
      have a := z2 j hj
      have b := sm_zero_each (f := fun i => y i * S i j) (fun k hk => Rat.mul_nonneg (hy k hk) (h.nn k j hk hj)) (by have := ih hj; grind) i hi
      grind
  intro i hi
  apply Classical.byContradiction
  intro z
  exact z (key i (o i hi z) hi)
def ab (x : Rat) : Rat := if x < 0 then -x else x
/-- a steady flow, 0 off some -/
structure Flow (n : Nat) (S : Nat → Nat → Rat) (F : Nat → Prop) (a X : Nat → Rat) : Prop where
  eq : ∀ j, j < n → X j = a j + sm n (fun i => X i * S i j)
  off : ∀ j, j < n → ¬ F j → X j = 0
section
variable {n : Nat} {S : Nat → Nat → Rat} {F G : Nat → Prop} {a b X Y : Nat → Rat}
theorem Flow.sub (f : Flow n S F a X) (g : Flow n S F b Y) : Flow n S F (fun i => a i - b i) fun i => X i - Y i := by
  refine ⟨fun j hj => ?_, fun j hj q => by rw [f.off j hj q, g.off j hj q]; grind⟩
  have : sm n (fun i => (X i - Y i) * S i j) = sm n (fun i => X i * S i j) - sm n (fun i => Y i * S i j) := by
    rw [← sm_sub]; exact sm_congr fun i _ => by grind
  rw [this]
  have := f.eq j hj
  have := g.eq j hj
  grind
theorem Flow.add (f : Flow n S F a X) (g : Flow n S F b Y) : Flow n S F (fun i => a i + b i) fun i => X i + Y i := by
  refine ⟨fun j hj => ?_, fun j hj q => by rw [f.off j hj q, g.off j hj q]; grind⟩
  have : sm n (fun i => (X i + Y i) * S i j) = sm n (fun i => X i * S i j) + sm n (fun i => Y i * S i j) := by
    rw [← sm_add]; exact sm_congr fun i _ => by grind
  rw [this]
  have := f.eq j hj
  have := g.eq j hj
  grind
theorem Flow.mono (f : Flow n S F a X) (k : ∀ i, i < n → F i → G i) : Flow n S G a X := ⟨f.eq, fun j hj q => f.off j hj fun z => q (k j hj z)⟩
theorem Flow.nonneg (h : Sub n S) (o : ∀ i, i < n → F i → Out n S i) (f : Flow n S F a X) (ha : ∀ i, i < n → 0 ≤ a i) : ∀ j, j < n → 0 ≤ X j := by
  have key := sub_zero' h (fun i => if X i < 0 then - X i else 0) (fun i hi q => o i hi (Classical.byContradiction fun g => q (by
      show (if X i < 0 then - X i else 0) = 0
      rw [f.off i hi g]; rfl))) (fun i _ => by
      show 0 ≤ if X i < 0 then - X i else 0
      split <;> grind) (fun j hj => by
    show (if X j < 0 then - X j else 0) ≤ _
    have nn : 0 ≤ sm n (fun i => (if X i < 0 then - X i else 0) * S i j) := sm_nonneg fun i hi => Rat.mul_nonneg (by split <;> grind) (h.nn i j hi hj)
    have le : sm n (fun i => (-1) * (X i * S i j)) ≤ sm n (fun i => (if X i < 0 then - X i else 0) * S i j) := sm_le fun i hi => by
      split
      · grind
      · have := Rat.mul_nonneg (show 0 ≤ X i by grind) (h.nn i j hi hj)
        grind
    rw [sm_mul] at le
    have e := f.eq j hj
    have := ha j hj
    split <;> grind)
  intro j hj
  have : (if X j < 0 then - X j else 0) = 0 := key j hj
  split at this <;> grind
end
/-! the system of the fed ones -/
/-- the values of some at the places of a list -/
def ext (m : Nat) (F : Nat → Nat) (x : Nat → Rat) : Nat → Rat := fun i => sm m (fun k => if F k = i then x k else 0)
end Mx
namespace Mx
structure Arr (n : Nat) (o : List Nat) : Prop where
  p : o.Perm (List.range n)
section
variable {n : Nat} {o : List Nat}
theorem Arr.len (h : Arr n o) : o.length = n := by simpa using h.p.length_eq
end
end Mx
namespace Mx
/-! losing rows -/
/-! what stays -/
end Mx
namespace Mx
section
variable {n u : Nat} {S : Nat → Nat → Rat}
theorem mul_ne {a b : Rat} (ha : a ≠ 0) (hb : b ≠ 0) : a * b ≠ 0 := fun z => by
  rcases Rat.mul_eq_zero.mp z with q | q
  · exact ha q
  · exact hb q
end
/-! two of them -/
end Mx
namespace Mx
def pw (x : Rat) : Nat → Rat
  | 0 => 1
  | n + 1 => pw x n * x
/-! against the stream -/
def wf (g : Rat) (fs : List Rat) : Rat := fs.foldl (fun w f => 1 + f * w) g
/-! the ring -/
end Mx
namespace Mx
section
variable {n : Nat} {S T : Nat → Nat → Rat} {F : Nat → Prop} {a X Y : Nat → Rat}
/-- where less is passed on less flows -/
theorem Flow.less (hT : Sub n T) (oT : ∀ i, i < n → F i → Out n T i) (le : ∀ i j, i < n → j < n → T i j ≤ S i j) (nn : ∀ i, i < n → 0 ≤ X i) (f : Flow n S F a X) (g : Flow n T F a Y) : ∀ j, j < n → Y j ≤ X j := by
  have d : Flow n T F (fun j => sm n (fun i => X i * (S i j - T i j))) (fun i => X i - Y i) := by
    refine ⟨fun j hj => ?_, fun j hj q => by rw [f.off j hj q, g.off j hj q]; grind⟩
    have e : sm n (fun i => X i * (S i j - T i j)) + sm n (fun i => (X i - Y i) * T i j) = sm n (fun i => X i * S i j) - sm n (fun i => Y i * T i j) := by
      rw [← sm_add, ← sm_sub]
      exact sm_congr fun i _ => by grind
    rw [e]
    have := f.eq j hj
    have := g.eq j hj
    grind
  intro j hj
  have := d.nonneg hT oT (fun i hi => sm_nonneg fun k hk => Rat.mul_nonneg (nn k hk) (by have := le k i hk hi; grind)) j hj
  grind
end
end Mx
namespace Mx
/-! powers and roots -/
theorem pow_add' (a : Rat) (m n : Nat) : a ^ (m + n) = a ^ m * a ^ n := by
  induction n with
  | zero => rw [Nat.add_zero, Rat.pow_zero, Rat.mul_one]
  | succ n ih => rw [← Nat.add_assoc, Rat.pow_succ, Rat.pow_succ, ih, Rat.mul_assoc]
theorem pow_mul' (a : Rat) (m n : Nat) : a ^ (m * n) = (a ^ m) ^ n := by
  induction n with
  | zero => rw [Nat.mul_zero, Rat.pow_zero, Rat.pow_zero]
  | succ n ih => rw [Nat.mul_add, Nat.mul_one, pow_add', ih, Rat.pow_succ]
theorem pow_comm' (a : Rat) (m n : Nat) : (a ^ m) ^ n = (a ^ n) ^ m := by rw [← pow_mul', Nat.mul_comm, pow_mul']
theorem pow_one' (a : Rat) : a ^ 1 = a := by rw [show (1 : Nat) = 0 + 1 from rfl, Rat.pow_succ, Rat.pow_zero, Rat.one_mul]
theorem one_pow' (n : Nat) : (1 : Rat) ^ n = 1 := by
  induction n with
  | zero => rfl
  | succ n ih => rw [Rat.pow_succ, ih, Rat.mul_one]
theorem pow_le' {a b : Rat} (h0 : 0 < a) (h : a ≤ b) (n : Nat) : a ^ n ≤ b ^ n := by
  induction n with
  | zero => rw [Rat.pow_zero, Rat.pow_zero]; exact Rat.le_refl
  | succ n ih =>
    rw [Rat.pow_succ, Rat.pow_succ]
    have p := Rat.pow_pos (n := n) h0
    have q := Rat.pow_pos (n := n) (show 0 < b by grind)
    exact Rat.le_trans (Rat.mul_le_mul_of_nonneg_left h (Rat.le_of_lt p)) (Rat.mul_le_mul_of_nonneg_right ih (by grind))
theorem pow_lt' {a b : Rat} (h0 : 0 < a) (h : a < b) {n : Nat} (hn : 0 < n) : a ^ n < b ^ n := by
  obtain ⟨n, rfl⟩ : ∃ k, n = k + 1 := ⟨n - 1, by omega⟩
  rw [Rat.pow_succ, Rat.pow_succ]
  have p := Rat.pow_pos (n := n) h0
  have l := pow_le' h0 (Rat.le_of_lt h) n
  have a1 := Rat.mul_lt_mul_of_pos_left h p
  have a2 := Rat.mul_le_mul_of_nonneg_right l (show 0 ≤ b by grind)
  grind
theorem le_of_pow {a b : Rat} (h0 : 0 < b) {n : Nat} (hn : 0 < n) (h : a ^ n ≤ b ^ n) : a ≤ b := by
  apply Classical.byContradiction
  intro z
  have := pow_lt' h0 (show b < a by grind) hn
  grind
/-- the number whose power is told is at most that of another pair -/
def leE (e f : Rat × Nat) : Prop := e.1 ^ f.2 ≤ f.1 ^ e.2
structure En (e : Rat × Nat) : Prop where
  p : 0 < e.1
  n : 0 < e.2
theorem leE_trans {e f g : Rat × Nat} (he : En e) (hf : En f) (hg : En g) (h : leE e f) (k : leE f g) : leE e g := by
  unfold leE at *
  refine le_of_pow (Rat.pow_pos hg.p) hf.n ?_
  have a1 := pow_le' (Rat.pow_pos he.p) h g.2
  have a2 := pow_le' (Rat.pow_pos hf.p) k e.2
  rw [pow_comm' e.1 g.2 f.2, pow_comm' g.1 e.2 f.2]
  rw [pow_comm' f.1 g.2 e.2] at a2
  exact Rat.le_trans a1 a2
theorem leE_refl (e : Rat × Nat) : leE e e := Rat.le_refl
instance (e f : Rat × Nat) : Decidable (leE e f) := inferInstanceAs (Decidable (_ ≤ _))
/-- the greatest of some, the first of its size -/
def topE (e : Rat × Nat) (l : List (Rat × Nat)) : Rat × Nat := l.foldl (fun e f => if leE f e then e else f) e
def lowE (e : Rat × Nat) (l : List (Rat × Nat)) : Rat × Nat := l.foldl (fun e f => if leE e f then e else f) e
theorem topE_mem (l : List (Rat × Nat)) : ∀ e, topE e l = e ∨ topE e l ∈ l := by
  induction l with
  | nil => intro e; exact .inl rfl
  | cons f l ih =>
    intro e
    show topE (if leE f e then e else f) l = e ∨ topE (if leE f e then e else f) l ∈ f :: l
    rcases ih (if leE f e then e else f) with h | h
    · by_cases g : leE f e
      · rw [if_pos g] at h ⊢; exact .inl h
      · rw [if_neg g] at h ⊢; exact .inr (by rw [h]; exact List.mem_cons_self)
    · exact .inr (List.mem_cons_of_mem _ h)
theorem lowE_mem (l : List (Rat × Nat)) : ∀ e, lowE e l = e ∨ lowE e l ∈ l := by
  induction l with
  | nil => intro e; exact .inl rfl
  | cons f l ih =>
    intro e
    show lowE (if leE e f then e else f) l = e ∨ lowE (if leE e f then e else f) l ∈ f :: l
    rcases ih (if leE e f then e else f) with h | h
    · by_cases g : leE e f
      · rw [if_pos g] at h ⊢; exact .inl h
      · rw [if_neg g] at h ⊢; exact .inr (by rw [h]; exact List.mem_cons_self)
    · exact .inr (List.mem_cons_of_mem _ h)
theorem leE_total (e f : Rat × Nat) : leE e f ∨ leE f e := by
  unfold leE
  rcases (Rat.le_total : e.1 ^ f.2 ≤ f.1 ^ e.2 ∨ _) with h | h
  · exact .inl h
  · exact .inr h
theorem topE_ge {l : List (Rat × Nat)} : ∀ {e}, En e → (∀ f ∈ l, En f) → leE e (topE e l) ∧ ∀ f ∈ l, leE f (topE e l) := by
  induction l with
  | nil => intro e _ _; exact ⟨leE_refl _, fun f h => by cases h⟩
  | cons f l ih =>
    intro e he hl
    have hf := hl f List.mem_cons_self
    have hl' : ∀ g ∈ l, En g := fun g hg => hl g (List.mem_cons_of_mem _ hg)
    have e1 : topE e (f :: l) = topE (if leE f e then e else f) l := rfl
    have hi : En (if leE f e then e else f) := by split; exact he; exact hf
    obtain ⟨a, b⟩ := ih hi hl'
    rw [e1]
    have ht : En (topE (if leE f e then e else f) l) := by
      rcases topE_mem l (if leE f e then e else f) with h | h
      · rw [h]; exact hi
      · exact hl' _ h
    have c : leE e (if leE f e then e else f) ∧ leE f (if leE f e then e else f) := by
      by_cases g : leE f e
      · rw [if_pos g]; exact ⟨leE_refl _, g⟩
      · rw [if_neg g]; exact ⟨(leE_total e f).resolve_right g, leE_refl _⟩
    refine ⟨leE_trans he hi ht c.1 a, fun g hg => ?_⟩
    rcases List.mem_cons.mp hg with rfl | hg
    · exact leE_trans hf hi ht c.2 a
    · exact b g hg
theorem lowE_le {l : List (Rat × Nat)} : ∀ {e}, En e → (∀ f ∈ l, En f) → leE (lowE e l) e ∧ ∀ f ∈ l, leE (lowE e l) f := by
  induction l with
  | nil => intro e _ _; exact ⟨leE_refl _, fun f h => by cases h⟩
  | cons f l ih =>
    intro e he hl
    have hf := hl f List.mem_cons_self
    have hl' : ∀ g ∈ l, En g := fun g hg => hl g (List.mem_cons_of_mem _ hg)
    have e1 : lowE e (f :: l) = lowE (if leE e f then e else f) l := rfl
    have hi : En (if leE e f then e else f) := by split; exact he; exact hf
    obtain ⟨a, b⟩ := ih hi hl'
    rw [e1]
    have ht : En (lowE (if leE e f then e else f) l) := by
      rcases lowE_mem l (if leE e f then e else f) with h | h
      · rw [h]; exact hi
      · exact hl' _ h
    have c : leE (if leE e f then e else f) e ∧ leE (if leE e f then e else f) f := by
      by_cases g : leE e f
      · rw [if_pos g]; exact ⟨leE_refl _, g⟩
      · rw [if_neg g]; exact ⟨(leE_total e f).resolve_left g, leE_refl _⟩
    refine ⟨leE_trans ht hi he a c.1, fun g hg => ?_⟩
    rcases List.mem_cons.mp hg with rfl | hg
    · exact leE_trans ht hi hf a c.2
    · exact b g hg
end Mx
namespace Lib
open PySem DL
def d_is_whole : FDef := ⟨"is_whole", ["value"], ["value"],
  [.ret (.and (.bi .isInt [.var 0]) (.not (.bi .isBool [.var 0])))]⟩
def d_is_between : FDef := ⟨"is_between", ["value", "low", "high"], ["value", "low", "high"],
  [.ret (.and (.call "is_whole" [.var 0]) (.and (.cmp .le (.var 1) (.var 0)) (.cmp .le (.var 0) (.var 2))))]⟩
def d__law_tap : FDef := ⟨"_law_tap", ["script", "turn"], ["script", "turn", "own", "mixed", "each"],
  [.asg (.name 2) (.ife (.cmp .lt (.var 1) (.bi .len [.var 0])) (.bi .int [.idx (.var 0) (.var 1)]) (.op2 .add (.op2 .add (.op2 .mul (.lit (.int 8513)) (.var 1)) (.lit (.int 409))) (.op2 .mod (.bi .int [.bi .sum [.slc (.var 0) none (some (.lit (.int 3)))]]) (.lit (.int 1000081))))), .asg (.name 3) (.op2 .add (.lit (.int 61543)) (.op2 .mul (.lit (.int 1733)) (.var 1))), .for_ (.name 4) (.op2 .add (.slc (.var 0) none (some (.lit (.int 6)))) (.lst [.var 2])) [.asg (.name 3) (.op2 .mod (.bi .int [.op2 .add (.op2 .add (.op2 .mul (.var 3) (.lit (.int 52627))) (.op2 .mod (.bi .int [.var 4]) (.lit (.int 2147483549)))) (.lit (.int 23))]) (.lit (.int 2147483549)))], .ret (.lst [.ife (.or (.cmp .lt (.var 2) (.lit (.int 0))) (.cmp .ge (.var 2) (.op2 .pow (.lit (.int 10)) (.lit (.int 18))))) (.bi .abs [.var 2]) (.lit (.int 0)), .var 3, .lit (.int 0)])]⟩
def d__law_drop : FDef := ⟨"_law_drop", ["tap", "top"], ["tap", "top", "factor2", "digit"],
  [.ite (.cmp .gt (.idx (.var 0) (.lit (.int 0))) (.lit (.int 0))) [.asg (.tup [.sub 0 (.lit (.int 0)), .name 3]) (.bi .divmod [.idx (.var 0) (.lit (.int 0)), .var 1]), .ret (.var 3)] [], .asg (.sub 0 (.lit (.int 2))) (.op2 .add (.idx (.var 0) (.lit (.int 2))) (.lit (.int 1))), .asg (.name 2) (.op2 .add (.lit (.int 25117)) (.op2 .mul (.lit (.int 4)) (.bi .int [.idx (.var 0) (.lit (.int 2))]))), .asg (.sub 0 (.lit (.int 1))) (.op2 .mod (.bi .int [.op2 .add (.op2 .add (.op2 .mul (.idx (.var 0) (.lit (.int 1))) (.var 2)) (.op2 .mul (.lit (.int 60029)) (.idx (.var 0) (.lit (.int 2))))) (.lit (.int 7))]) (.lit (.int 2147483549))), .ret (.op2 .mod (.bi .int [.op2 .fdiv (.idx (.var 0) (.lit (.int 1))) (.lit (.int 71))]) (.var 1))]⟩
def d_are_wholes : FDef := ⟨"are_wholes", ["value", "many"], ["value", "many", "each"],
  [.ret (.and (.bi .isTuple [.var 0]) (.and (.cmp .eq (.bi .len [.var 0]) (.var 1)) (.bi .all [.comp (.call "is_whole" [.var 2]) (.name 2) (.var 0) none [2]])))]⟩
def d_divisor_of : FDef := ⟨"divisor_of", ["numbers"], ["numbers", "found", "number"],
  [.asg (.name 1) (.lit (.int 0)), .for_ (.name 2) (.var 0) [.asg (.name 1) (.bi .gcd [.var 1, .var 2])], .ret (.var 1)]⟩
def d_lowest : FDef := ⟨"lowest", ["numbers"], ["numbers", "part", "number"],
  [.asg (.name 1) (.call "divisor_of" [.var 0]), .ret (.ife (.cmp .eq (.var 1) (.lit (.int 0))) (.bi .tuple [.var 0]) (.bi .tuple [.comp (.op2 .fdiv (.var 2) (.var 1)) (.name 2) (.var 0) none [2]]))]⟩
def d_is_ratio : FDef := ⟨"is_ratio", ["value"], ["value"],
  [.ret (.and (.call "are_wholes" [.var 0, .lit (.int 2)]) (.and (.cmp .gt (.idx (.var 0) (.lit (.int 1))) (.lit (.int 0))) (.cmp .eq (.call "divisor_of" [.var 0]) (.lit (.int 1)))))]⟩
def d_ratio : FDef := ⟨"ratio", ["top", "low"], ["top", "low"],
  [.ret (.ife (.cmp .gt (.var 1) (.lit (.int 0))) (.call "lowest" [.tup [.var 0, .var 1]]) (.call "lowest" [.tup [.neg (.var 0), .neg (.var 1)]]))]⟩
def d_plus : FDef := ⟨"plus", ["one", "two"], ["one", "two"],
  [.ret (.call "ratio" [.op2 .add (.op2 .mul (.idx (.var 0) (.lit (.int 0))) (.idx (.var 1) (.lit (.int 1)))) (.op2 .mul (.idx (.var 1) (.lit (.int 0))) (.idx (.var 0) (.lit (.int 1)))), .op2 .mul (.idx (.var 0) (.lit (.int 1))) (.idx (.var 1) (.lit (.int 1)))])]⟩
def d_minus : FDef := ⟨"minus", ["one", "two"], ["one", "two"],
  [.ret (.call "ratio" [.op2 .sub (.op2 .mul (.idx (.var 0) (.lit (.int 0))) (.idx (.var 1) (.lit (.int 1)))) (.op2 .mul (.idx (.var 1) (.lit (.int 0))) (.idx (.var 0) (.lit (.int 1)))), .op2 .mul (.idx (.var 0) (.lit (.int 1))) (.idx (.var 1) (.lit (.int 1)))])]⟩
def d_over : FDef := ⟨"over", ["one", "two"], ["one", "two"],
  [.ret (.call "ratio" [.op2 .mul (.idx (.var 0) (.lit (.int 0))) (.idx (.var 1) (.lit (.int 1))), .op2 .mul (.idx (.var 0) (.lit (.int 1))) (.idx (.var 1) (.lit (.int 0)))])]⟩
def d_is_below : FDef := ⟨"is_below", ["one", "two"], ["one", "two"],
  [.ret (.cmp .lt (.op2 .mul (.idx (.var 0) (.lit (.int 0))) (.idx (.var 1) (.lit (.int 1)))) (.op2 .mul (.idx (.var 1) (.lit (.int 0))) (.idx (.var 0) (.lit (.int 1)))))]⟩
def d_is_share : FDef := ⟨"is_share", ["value"], ["value"],
  [.ret (.and (.call "is_ratio" [.var 0]) (.and (.cmp .le (.lit (.int 0)) (.idx (.var 0) (.lit (.int 0)))) (.cmp .le (.idx (.var 0) (.lit (.int 0))) (.idx (.var 0) (.lit (.int 1))))))]⟩
def d__law_of : FDef := ⟨"_law_of", ["tap", "some"], ["tap", "some"],
  [.ret (.idx (.var 1) (.callIo "_law_drop" (.var 0) [.bi .len [.var 1]]))]⟩
def d__law_gcd : FDef := ⟨"_law_gcd", ["one", "two"], ["one", "two"],
  [.par [.name 0, .name 1] [.bi .abs [.var 0], .bi .abs [.var 1]], .while_ (.cmp .gt (.var 1) (.lit (.int 0))) [.par [.name 0, .name 1] [.var 1, .op2 .mod (.bi .int [.var 0]) (.var 1)]], .ret (.var 0)]⟩
def d__law_thin : FDef := ⟨"_law_thin", ["some"], ["some", "deep", "each"],
  [.asg (.name 1) (.lit (.int 0)), .for_ (.name 2) (.var 0) [.asg (.name 1) (.ife (.cmp .ne (.var 1) (.lit (.int 1))) (.call "_law_gcd" [.var 1, .var 2]) (.lit (.int 1)))], .ret (.ife (.cmp .gt (.var 1) (.lit (.int 1))) (.bi .tuple [.comp (.op2 .fdiv (.var 2) (.var 1)) (.name 2) (.var 0) none [2]]) (.bi .tuple [.var 0]))]⟩
def d__law_frac : FDef := ⟨"_law_frac", ["n", "m"], ["n", "m"],
  [.ret (.call "_law_thin" [.ife (.cmp .gt (.var 1) (.lit (.int 0))) (.tup [.var 0, .var 1]) (.tup [.op2 .sub (.lit (.int 0)) (.var 0), .op2 .sub (.lit (.int 0)) (.var 1)])])]⟩
def d__law_add : FDef := ⟨"_law_add", ["one", "two"], ["one", "two"],
  [.ret (.call "_law_frac" [.op2 .add (.op2 .mul (.idx (.var 0) (.lit (.int 0))) (.idx (.var 1) (.lit (.int 1)))) (.op2 .mul (.idx (.var 1) (.lit (.int 0))) (.idx (.var 0) (.lit (.int 1)))), .op2 .mul (.idx (.var 0) (.lit (.int 1))) (.idx (.var 1) (.lit (.int 1)))])]⟩
def d__law_over : FDef := ⟨"_law_over", ["one", "two"], ["one", "two"],
  [.ret (.call "_law_frac" [.op2 .mul (.idx (.var 0) (.lit (.int 0))) (.idx (.var 1) (.lit (.int 1))), .op2 .mul (.idx (.var 0) (.lit (.int 1))) (.idx (.var 1) (.lit (.int 0)))])]⟩
def d__law_side : FDef := ⟨"_law_side", ["one", "two"], ["one", "two", "gap"],
  [.asg (.name 2) (.op2 .sub (.op2 .mul (.idx (.var 0) (.lit (.int 0))) (.idx (.var 1) (.lit (.int 1)))) (.op2 .mul (.idx (.var 1) (.lit (.int 0))) (.idx (.var 0) (.lit (.int 1))))), .ret (.ife (.cmp .gt (.var 2) (.lit (.int 0))) (.lit (.int 1)) (.ife (.cmp .lt (.var 2) (.lit (.int 0))) (.neg (.lit (.int 1))) (.lit (.int 0))))]⟩
def d__law_amount : FDef := ⟨"_law_amount", ["tap"], ["tap", "top", "low2"],
  [.par [.name 1, .name 2] [.callIo "_law_of" (.var 0) [.lst [.lit (.int 2), .lit (.int 3), .lit (.int 5), .lit (.int 9), .lit (.int 9), .lit (.int 400)]], .callIo "_law_of" (.var 0) [.lst [.lit (.int 1), .lit (.int 1), .lit (.int 2), .lit (.int 5), .lit (.int 9), .lit (.int 400)]]], .ret (.call "_law_frac" [.op2 .add (.lit (.int 1)) (.callIo "_law_drop" (.var 0) [.var 1]), .op2 .add (.lit (.int 1)) (.callIo "_law_drop" (.var 0) [.var 2])])]⟩
def d__law_inner : FDef := ⟨"_law_inner", ["tap"], ["tap", "under"],
  [.asg (.name 1) (.op2 .add (.lit (.int 2)) (.callIo "_law_drop" (.var 0) [.callIo "_law_of" (.var 0) [.lst [.lit (.int 1), .lit (.int 3), .lit (.int 8), .lit (.int 8), .lit (.int 19), .lit (.int 400)]]])), .ret (.call "_law_frac" [.op2 .add (.lit (.int 1)) (.callIo "_law_drop" (.var 0) [.op2 .sub (.var 1) (.lit (.int 1))]), .var 1])]⟩
def d_share_with : FDef := ⟨"share_with", ["number"], ["number"],
  [.ret (.call "over" [.var 0, .call "plus" [.con "ONE" (.tuple [(.int 1), (.int 1)]), .var 0]])]⟩
end Lib
namespace Lib
open PySem DL L2
class Nd (P : List FDef) : Prop where nd : (P.map (·.name)).Nodup
class Has (P : List FDef) (d : FDef) : Prop where mem : d ∈ P
local macro_rules | `(tactic| walk_at "w1") => `(tactic| (first
  | (with_reducible refine R.lit ?_) | (with_reducible refine R.con ?_)
  | ((with_reducible refine' R.var ?g ?h); (case g => exact rfl))
  | ((with_reducible refine' R.varO ?g ?h); (case g => exact rfl))
  | (with_reducible refine R.op2 ?_) | (with_reducible refine R.cmp ?_) | (with_reducible refine R.idx ?_) | (with_reducible refine R.slc ?_) | (with_reducible refine R.oN ?_) | (with_reducible refine R.oS ?_)
  | (with_reducible refine R.tcmp ?_) | (with_reducible refine R.tnot ?_) | (with_reducible refine R.tand ?_) | (with_reducible refine R.tor ?_) | (with_reducible refine R.tcall ?_) | (with_reducible refine R.tbi ?_) | (with_reducible refine R.tisN ?_) | (with_reducible refine R.tnotN ?_) | (with_reducible refine R.tchain ?_) | (with_reducible refine R.tvar ?_) | (with_reducible refine R.tcallK ?_)
  | (with_reducible refine R.isN ?_) | (with_reducible refine R.notN ?_) | (with_reducible refine R.chain ?_) | (with_reducible refine R.neg ?_) | (with_reducible refine R.not ?_) | (with_reducible refine R.and ?_) | (with_reducible refine R.or ?_) | (with_reducible refine R.ife ?_)
  | (with_reducible refine R.tup ?_) | (with_reducible refine R.lst ?_) | (with_reducible refine R.call ?_) | (with_reducible refine R.callK ?_) | (with_reducible refine R.callIo ?_) | (with_reducible refine R.bi ?_) | (with_reducible refine R.comp ?_) | (with_reducible refine R.index ?_) | (with_reducible refine R.repL ?_) | (with_reducible refine R.listR ?_)
  | (with_reducible refine R.an ?_) | (with_reducible refine R.ac ?_) | (with_reducible refine R.en ?_) | (with_reducible refine R.ec ?_) | (with_reducible refine R.ed ?_) | (with_reducible refine R.eo ?_)
  | ((with_reducible refine' R.erd ?g ?h); (case g => exact rfl)) | ((with_reducible refine' R.ero ?g ?h); (case g => exact rfl))
  | ((with_reducible refine' R.w1 ?g ?h); (case g => exact rfl)) | ((with_reducible refine' R.w2 ?g ?g' ?h); (case g => exact rfl); (case g' => exact rfl)) | ((with_reducible refine' R.ws ?g ?h); (case g => exact rfl))
  | (with_reducible refine R.fval rfl ?_) | (with_reducible refine R.f_l ?_) | (with_reducible refine R.f_t ?_) | (with_reducible refine R.ival rfl ?_) | (with_reducible refine R.i_l ?_) | (with_reducible refine R.i_t ?_) | (with_reducible refine R.i_o ?_) | ((with_reducible refine' R.i_r ?g ?h); (case g => exact rfl))
  | (with_reducible refine R.irange ?_) | (with_reducible refine R.frange ?_) | (with_reducible refine R.ienum ?_) | (with_reducible refine R.fenum ?_) | (with_reducible refine R.izip ?_) | (with_reducible refine R.fzip ?_) | (with_reducible refine R.irev ?_) | (with_reducible refine R.frev ?_) | ((with_reducible refine' R.zip_at ?g ?g' ?h); (case g => exact rfl); (case g' => exact rfl)) | (with_reducible refine R.eq_i ?_) | (with_reducible refine R.ne_i ?_) | (with_reducible refine R.sretN ?_)
  | (with_reducible refine R.sn ?_) | (with_reducible refine R.sc ?_) | (with_reducible refine R.sasg ?_) | (with_reducible refine R.spar ?_) | (with_reducible refine R.sexpr ?_) | (with_reducible refine R.sapp ?_) | (with_reducible refine R.sext ?_) | (with_reducible refine R.sret ?_) | (with_reducible refine R.site ?_) | (with_reducible refine R.sfor ?_)
  | ((with_reducible refine R.nd_ ?n ?h); (case n => first | exact R.nio rfl rfl | exact R.nio rfl (DL.NoOw.ok (by assumption)))) | ((with_reducible refine R.no_ ?n ?h); (case n => first | exact R.nio rfl rfl | exact R.nio rfl (DL.NoOw.ok (by assumption)))) | ((with_reducible refine R.nr_ ?n ?h); (case n => first | exact R.nio rfl rfl | exact R.nio rfl (DL.NoOw.ok (by assumption))))
  | ((with_reducible refine' R.an_name ?n ?h); (case n => first | assumption | exact R.nio rfl rfl | exact R.nio rfl (DL.NoOw.ok (by assumption)))) | ((with_reducible refine' R.an_two ?n ?m ?h); (case n => first | assumption | exact R.nio rfl rfl | exact R.nio rfl (DL.NoOw.ok (by assumption))); (case m => first | assumption | exact R.nio rfl rfl | exact R.nio rfl (DL.NoOw.ok (by assumption)))) | ((with_reducible refine' R.an_three ?n ?m ?o ?h); (case n => first | assumption | exact R.nio rfl rfl | exact R.nio rfl (DL.NoOw.ok (by assumption))); (case m => first | assumption | exact R.nio rfl rfl | exact R.nio rfl (DL.NoOw.ok (by assumption))); (case o => first | assumption | exact R.nio rfl rfl | exact R.nio rfl (DL.NoOw.ok (by assumption)))) | (with_reducible refine R.tt rfl ?_) | (with_reducible refine R.tn ?_) | (with_reducible refine R.tc ?_) | (with_reducible refine R.subd ?_) | ((with_reducible refine' R.own_and ?g ?h); (case g => exact rfl)) | ((with_reducible refine' R.put_at ?g ?g' ?h); (case g => exact rfl); (case g' => exact rfl)) | ((with_reducible refine' R.io_ref ?g ?h); (case g => exact rfl)) | (with_reducible refine R.io_own ?_) | (with_reducible refine R.one_1 ?_) | (with_reducible refine R.setn ?_) | (with_reducible refine R.setd ?_) | (with_reducible refine R.seto ?_) | (with_reducible refine R.setr ?_)
  | ((with_reducible refine' R.find ?g ?h); (case g => exact rfl)) | ((with_reducible refine' R.fino ?g ?h); (case g => exact rfl)) | ((with_reducible refine' R.finr ?g ?g' ?h); (case g => exact rfl); (case g' => exact rfl)) | ((with_reducible refine' R.find' ?g ?g' ?h); (case g => exact rfl); (case g' => exact rfl))
  | (with_reducible refine R.ifT ?_) | (with_reducible refine R.ifF ?_)
  | ((with_reducible refine' R.pow_i ?g ?h); (case g => decide)) | ((with_reducible refine' R.mul_i ?g ?h); (case g => exact mulOk 60 60 (by omega) (by omega) (by decide))) | ((with_reducible refine' R.fdiv_i ?g ?h); (case g => exact divOk (by omega) (by omega))) | ((with_reducible refine' R.mod_i ?g ?h); (case g => omega))
  | (with_reducible refine R.add_i ?_) | (with_reducible refine R.sub_i ?_) | (with_reducible refine R.lt_i ?_) | (with_reducible refine R.le_i ?_) | (with_reducible refine R.gt_i ?_) | (with_reducible refine R.ge_i ?_)
  | ((with_reducible refine' R.idx_l ?g ?h); (case g => exact rfl)) | ((with_reducible refine' R.idx_t ?g ?h); (case g => exact rfl)) | (with_reducible refine R.slc_l ?_) | (with_reducible refine R.slc_t ?_)
  | (with_reducible refine R.len_l ?_) | (with_reducible refine R.len_t ?_) | (with_reducible refine R.tuple_l ?_) | (with_reducible refine R.tuple_t ?_) | (with_reducible refine R.list_l ?_) | (with_reducible refine R.list_t ?_) | (with_reducible refine R.abs_i ?_) | (with_reducible refine R.int_i ?_) | (with_reducible refine R.gcd_i ?_)
  | (with_reducible refine R.isint ?_) | (with_reducible refine R.isbool ?_) | (with_reducible refine R.istuple ?_) | (with_reducible refine R.islist ?_)
  | (with_reducible refine R.sum_is ?_) | (with_reducible refine R.all_bs ?_) | ((with_reducible refine R.any_bs ?_))); (try dsimp only [List.map, List.set, Int.reduceToNat, Bool.not_true, Bool.not_false, DL.restR, DL.gt, DL.wipeR]))
theorem w_drop {P : List FDef} [Nd P] [Has P d__law_drop] {k : Nat} {a b c t : Int} {Q E} (ha : 0 ≤ a) (hb : 0 ≤ b) (hb2 : b < 2147483549) (hc : 0 ≤ c) (hc2 : c < 1000000000) (ht : 0 < t) (ht2 : t < 1000000000)
   (h : ∀ a' b' c' r : Int, 0 ≤ a' → 0 ≤ b' → b' < 2147483549 → 0 ≤ c' → c' ≤ c + 1 → 0 ≤ r → r < t → Q (.dat (.int r)) [[.int a', .int b', .int c']]) : gam P (k + 1) "_law_drop" [.own true [.int a, .int b, .int c], .dat (.int t)] Q E := by
  refine R.opn Nd.nd (Has.mem (d := d__law_drop)) rfl ?_
  simp only [d__law_drop, List.map, List.replicate, List.length_cons, List.length_nil, List.cons_append, List.nil_append, Nat.reduceAdd, Nat.reduceSub]
  (repeat walk_at "w1")
  refine R.iteD (fun h1 => ?_) fun h1 => ?_
  · (repeat walk_at "w1")
    refine R.divmod_i ⟨ht, by omega⟩ ?_
    (repeat walk_at "w1")
    exact h _ _ _ _ (Int.ediv_nonneg ha (by omega)) hb hb2 hc (by omega) (Int.emod_nonneg _ (by omega)) (Int.emod_lt_of_pos _ ht)
  · (repeat walk_at "w1")
    exact h _ _ _ _ ha (Int.emod_nonneg _ (by omega)) (Int.emod_lt_of_pos _ (by omega)) (by omega) (by omega) (Int.emod_nonneg _ (by omega)) (Int.emod_lt_of_pos _ ht)
theorem atI_ints {ns : List Int} {t : Int} (h0 : 0 ≤ t) (h : t < ns.length) : ∃ v : Int, atI (ns.map PyData.int) t = some (.int v) := by
  obtain ⟨n, rfl⟩ := Int.eq_ofNat_of_zero_le h0
  have hn : n < ns.length := by omega
  exact ⟨ns[n], atI_nat (by simp [hn])⟩
theorem cut_ints (ns : List Int) (lo hi : Option Int) : ∃ ms : List Int, cutD (ns.map PyData.int) lo hi = ms.map PyData.int ∧ ms.length ≤ ns.length := by
  unfold cutD
  simp only [List.length_map, ← List.map_drop, ← List.map_take]
  exact ⟨_, rfl, by simp; omega⟩
theorem w_tap {P : List FDef} [Nd P] [Has P d__law_tap] {k : Nat} {ns : List Int} {t : Int} {Q E} (hl : ns.length ≤ 63) (ht : 0 ≤ t) (ht2 : t < 1000000)
   (h : ∀ a b : Int, 0 ≤ a → 0 ≤ b → b < 2147483549 → Q (.own [.int a, .int b, .int 0]) []) : gam P (k + 1) "_law_tap" [.dat (.list (ns.map .int)), .dat (.int t)] Q E := by
  refine R.opn Nd.nd (Has.mem (d := d__law_tap)) rfl ?_
  simp only [d__law_tap, List.map, List.replicate, List.length_cons, List.length_nil, List.cons_append, List.nil_append, Nat.reduceAdd, Nat.reduceSub]
  walk_at "w1"; walk_at "w1"
  refine R.join (fun v : Int => .dat (.int v)) (fun own => ?_) fun q' key => ?_
  · (repeat walk_at "w1")
    obtain ⟨ms, e, hm⟩ := cut_ints ns none (some 6)
    rw [e]
    refine R.add_l (by unfold LenOk; rw [sizeLine_eq]; simp; omega) ?_
    (repeat walk_at "w1")
    refine R.for_rule (fun xs ρ => ∃ (zs : List Int) (m : Int) (x : Option Sl), 0 ≤ m ∧ m < 2147483549 ∧ xs = zs.map .int ∧ R.okSl x = true ∧ ρ = [some (Sl.dat (PyData.list (List.map PyData.int ns))), some (Sl.dat (PyData.int t)), some (Sl.dat (PyData.int own)), some (Sl.dat (PyData.int m)), x]) ?ha ?hb _ _ ?hc
    case hc => exact ⟨ms ++ [own], _, none, by omega, by omega, by simp, rfl, rfl⟩
    case ha =>
      rintro ρ ⟨zs, m, x, h1, h2, h3, h4, rfl⟩
      (repeat walk_at "w1")
      refine R.iteD (fun g1 => ?_) fun g1 => ?_
      · (repeat walk_at "w1")
        exact h _ _ (by split <;> omega) h1 h2
      · (repeat walk_at "w1")
        refine R.iteD (fun g2 => ?_) fun g2 => ?_
        · (repeat walk_at "w1")
          exact h _ _ (by split <;> omega) h1 h2
        · (repeat walk_at "w1")
          exact h _ _ (by omega) h1 h2
    case hb =>
      rintro y ys ρ nx ⟨zs, m, x, h1, h2, h3, h4, rfl⟩ hx
      cases zs with
      | nil => cases h3
      | cons z zs =>
        obtain ⟨rfl, rfl⟩ := List.cons.inj h3
        refine R.an_name (R.nio rfl h4) ?_
        (repeat walk_at "w1")
        exact hx _ ⟨zs, _, _, Int.emod_nonneg _ (by omega), Int.emod_lt_of_pos _ (by omega), rfl, rfl, rfl⟩
  · (repeat walk_at "w1")
    refine R.iteD (fun h1 => ?_) fun h1 => ?_
    · (repeat walk_at "w1")
      obtain ⟨v, hv⟩ := atI_ints (ns := ns) ht (by simpa using h1)
      refine R.idx_l hv ?_
      (repeat walk_at "w1")
      exact key _
    · (repeat walk_at "w1")
      obtain ⟨ms, e, hm⟩ := cut_ints ns none (some 3)
      rw [e]
      (repeat walk_at "w1")
      exact key _
/-- the greatest divisor of some -/
def gcds (g : Nat) (ns : List Int) : Nat := ns.foldl (fun g n => Nat.gcd g n.natAbs) g
theorem w_divisor_of {P : List FDef} [Nd P] [Has P d_divisor_of] {k : Nat} {d : D} {ns : List Int} {Q E} (hd : d = .tuple (ns.map .int) ∨ d = .list (ns.map .int)) (h : Q (.dat (.int (gcds 0 ns))) []) : gam P (k + 1) "divisor_of" [.dat d] Q E := by
  refine R.opn Nd.nd (Has.mem (d := d_divisor_of)) rfl ?_
  simp only [d_divisor_of, List.map, List.replicate, List.length_cons, List.length_nil, List.cons_append, List.nil_append, Nat.reduceAdd, Nat.reduceSub]
  walk_at "w1"; walk_at "w1"; walk_at "w1"; walk_at "w1"; walk_at "w1"; walk_at "w1"
  have loop : ∀ dd : DEn, (∀ x, R.okSl x = true → dd.nx [some (.dat d), some (.dat (.int (gcds 0 ns))), x]) → forL (asnN (.name 2)) (wpSs (gam P k) [.asg (.name 1) (.bi .gcd [.var 1, .var 2])] E) dd (ns.map .int) [some (.dat d), some (.dat (.int 0)), none] := by
    intro dd hq
    have gen : ∀ (zs : List Int) (g : Nat) (x : Option Sl), R.okSl x = true → gcds g zs = gcds 0 ns → forL (asnN (.name 2)) (wpSs (gam P k) [.asg (.name 1) (.bi .gcd [.var 1, .var 2])] E) dd (zs.map .int) [some (.dat d), some (.dat (.int g)), x] := by
      intro zs
      induction zs with
      | nil =>
        intro g x hx e
        simp only [List.map, forL]
        have : gcds g [] = g := rfl
        rw [← e, this] at hq
        exact hq x hx
      | cons z zs ih =>
        intro g x hx e
        simp only [List.map, forL]
        refine R.an_name (R.nio rfl hx) ?_
        (repeat walk_at "w1")
        exact ih _ _ rfl (by rw [← e]; rfl)
    exact gen ns 0 none rfl rfl
  rcases hd with rfl | rfl
  · (repeat walk_at "w1")
    refine loop _ fun x hx => ?_
    (repeat walk_at "w1")
    exact h
  · (repeat walk_at "w1")
    refine loop _ fun x hx => ?_
    (repeat walk_at "w1")
    exact h
/-- [f x for x in xs], the rest as it was -/
theorem comp_map {i : Nat} {te : DTE} {ck : Rho → Prop} {q : List D → Rho → Prop} {ρ0 : Rho} (f : D → D) (hi : gt ρ0 i = none) (hw : ∀ d : D, (ρ0.set i (some (.dat d))).set i none = ρ0) (hck : ck ρ0) :
    ∀ (xs acc : List D), (∀ x ∈ xs, ∀ nx : D → Rho → Prop, nx (f x) (ρ0.set i (some (.dat x))) → te (fun _ => False) (ρ0.set i (some (.dat x))) fun r ρ3 => esc r ρ3 nx) → q (acc ++ xs.map f) ρ0 → compL (asnN (.name i)) (fun _ ρ Q => Q true ρ) te ck [i] q xs acc ρ0
  | [], acc, _, h => by
    simp only [compL]
    exact ⟨hck, by simpa using h⟩
  | x :: xs, acc, he, h => by
    simp only [compL]
    refine ⟨hck, R.an_name (R.nio hi rfl) ?_⟩
    rw [if_pos (by trivial)]
    refine he x List.mem_cons_self _ ?_
    simp only [wipeR, hw]
    exact comp_map f hi hw hck xs _ (fun y hy => he y (List.mem_cons_of_mem _ hy)) (by simpa using h)
theorem w_lowest {P : List FDef} [Nd P] [Has P d_lowest] [Has P d_divisor_of] {k : Nat} {ns : List Int} {Q E} (hg : 0 < gcds 0 ns) (hb : DivOk (gcds 0 ns : Int)) (h : Q (.dat (.tuple (ns.map fun n => .int (n / (gcds 0 ns : Int))))) []) : gam P (k + 2) "lowest" [.dat (.tuple (ns.map .int))] Q E := by
  refine R.opn Nd.nd (Has.mem (d := d_lowest)) rfl ?_
  simp only [d_lowest, List.map, List.replicate, List.length_cons, List.length_nil, List.cons_append, List.nil_append, Nat.reduceAdd, Nat.reduceSub]
  (repeat walk_at "w1")
  refine w_divisor_of (.inl rfl) ?_
  (repeat walk_at "w1")
  rw [decide_eq_false (show ¬ (gcds 0 ns : Int) = 0 by omega)]
  (repeat walk_at "w1")
  refine ⟨fun i hi b xs e => ?_, ?_⟩
  · rcases List.mem_singleton.mp hi with rfl
    cases e
  simp only [wpo, wipeR]
  refine comp_map (fun x => match x with | .int n => .int (n / (gcds 0 ns : Int)) | x => x) rfl (fun _ => rfl) trivial _ _ (fun x hx nx hn => ?_) ?_
  · obtain ⟨n, _, rfl⟩ := List.mem_map.mp hx
    (repeat walk_at "w1")
    refine R.fdiv_i hb ?_
    (repeat walk_at "w1")
    exact hn
  · (repeat walk_at "w1")
    simp only [List.nil_append, List.map_map, Function.comp_def]
    exact h
/-- a fraction as the program holds it -/
def fr (q : Rat) : D := .tuple [.int q.num, .int (q.den : Int)]
theorem gcds_two (a b : Int) : gcds 0 [a, b] = Nat.gcd a.natAbs b.natAbs := by simp [gcds]
/-- lowest of a top and a low above 0 -/
theorem low_fr (n : Int) (d : Nat) (hd : 0 < d) : (.tuple ([n, (d : Int)].map fun z => .int (z / (gcds 0 [n, (d : Int)] : Int))) : D) = fr (mkRat n d) := by
  have h : mkRat n d = Rat.normalize n d (by omega) := by rw [Rat.normalize_eq_mkRat]
  rw [h, Rat.normalize_eq, gcds_two]
  simp only [fr, List.map, Int.natAbs_natCast]
  congr 3
theorem gcd_div (n : Int) {l : Int} (hl : 0 < l) (hb : l.natAbs.log2 < 9000) : 0 < gcds 0 [n, l] ∧ DivOk (gcds 0 [n, l] : Int) := by
  have h0 : 0 < gcds 0 [n, l] := by
    rw [gcds_two]
    exact Nat.gcd_pos_of_pos_right _ (by omega)
  refine ⟨h0, by omega, ?_⟩
  have le : gcds 0 [n, l] ≤ l.natAbs := by
    rw [gcds_two]
    exact Nat.gcd_le_right _ (by omega)
  rw [Int.natAbs_natCast]
  have a : l.natAbs < 2 ^ 9000 := (Nat.log2_lt (by omega)).mp hb
  exact (Nat.log2_lt (by omega)).mpr (Nat.lt_of_le_of_lt le a)
theorem w_ratio {P : List FDef} [Nd P] [Has P d_ratio] [Has P d_lowest] [Has P d_divisor_of] {k : Nat} {n l : Int} {Q E} (hl : 0 < l) (hb : l.natAbs.log2 < 9000) (h : Q (.dat (fr (mkRat n l.toNat))) []) : gam P (k + 3) "ratio" [.dat (.int n), .dat (.int l)] Q E := by
  refine R.opn Nd.nd (Has.mem (d := d_ratio)) rfl ?_
  simp only [d_ratio, List.map, List.replicate, List.length_cons, List.length_nil, List.cons_append, List.nil_append, Nat.reduceAdd, Nat.reduceSub]
  (repeat walk_at "w1")
  refine R.iteD (fun _ => ?_) fun g => absurd hl g
  (repeat walk_at "w1")
  obtain ⟨g1, g2⟩ := gcd_div n hl hb
  refine w_lowest (ns := [n, l]) g1 g2 ?_
  (repeat walk_at "w1")
  obtain ⟨d, rfl⟩ := Int.eq_ofNat_of_zero_le (Int.le_of_lt hl)
  have := low_fr n d (by omega)
  simp only [List.map] at this
  rw [this]
  exact h
/-- top and low have at most m bits -/
def Sz (m : Nat) (q : Rat) : Prop := q.num.natAbs < 2 ^ m ∧ q.den < 2 ^ m
theorem mkRat_add (a b : Rat) : mkRat (a.num * (b.den : Int) + b.num * (a.den : Int)) ((a.den : Int) * (b.den : Int)).toNat = a + b := by
  rw [Rat.add_def, Rat.normalize_eq_mkRat]
  congr 1
theorem w_plus {P : List FDef} [Nd P] [Has P d_plus] [Has P d_ratio] [Has P d_lowest] [Has P d_divisor_of] {k : Nat} {a b : Rat} {s t : Nat} {Q E} (ha : Sz s a) (hb : Sz t b) (hs : s + t ≤ 8000) (h : Q (.dat (fr (a + b))) []) : gam P (k + 4) "plus" [.dat (fr a), .dat (fr b)] Q E := by
  refine R.opn Nd.nd (Has.mem (d := d_plus)) rfl ?_
  simp only [d_plus, List.map, List.replicate, List.length_cons, List.length_nil, List.cons_append, List.nil_append, Nat.reduceAdd, Nat.reduceSub]
  simp only [fr]
  have da := a.den_pos
  have db := b.den_pos
  (repeat walk_at "w1")
  refine R.mul_i (mulOk s t ha.1 (by simpa using hb.2) (by omega)) ?_
  (repeat walk_at "w1")
  refine R.mul_i (mulOk t s hb.1 (by simpa using ha.2) (by omega)) ?_
  (repeat walk_at "w1")
  refine R.mul_i (mulOk s t (by simpa using ha.2) (by simpa using hb.2) (by omega)) ?_
  (repeat walk_at "w1")
  refine w_ratio (Int.mul_pos (by omega) (by omega)) ?_ ?_
  · rw [Int.natAbs_mul, Int.natAbs_natCast, Int.natAbs_natCast]
    have : a.den * b.den < 2 ^ (s + t) := by
      rw [Nat.pow_add]
      exact Nat.mul_lt_mul'' ha.2 hb.2
    exact Nat.lt_of_lt_of_le ((Nat.log2_lt (Nat.ne_of_gt (Nat.mul_pos da db))).mpr this) (by omega)
  · (repeat walk_at "w1")
    rw [mkRat_add]
    exact h
theorem mkRat_sub (a b : Rat) : mkRat (a.num * (b.den : Int) - b.num * (a.den : Int)) ((a.den : Int) * (b.den : Int)).toNat = a - b := by
  rw [Rat.sub_def, Rat.normalize_eq_mkRat]
  congr 1
theorem w_minus {P : List FDef} [Nd P] [Has P d_minus] [Has P d_ratio] [Has P d_lowest] [Has P d_divisor_of] {k : Nat} {a b : Rat} {s t : Nat} {Q E} (ha : Sz s a) (hb : Sz t b) (hs : s + t ≤ 8000) (h : Q (.dat (fr (a - b))) []) : gam P (k + 4) "minus" [.dat (fr a), .dat (fr b)] Q E := by
  refine R.opn Nd.nd (Has.mem (d := d_minus)) rfl ?_
  simp only [d_minus, List.map, List.replicate, List.length_cons, List.length_nil, List.cons_append, List.nil_append, Nat.reduceAdd, Nat.reduceSub]
  simp only [fr]
  have da := a.den_pos
  have db := b.den_pos
  (repeat walk_at "w1")
  refine R.mul_i (mulOk s t ha.1 (by simpa using hb.2) (by omega)) ?_
  (repeat walk_at "w1")
  refine R.mul_i (mulOk t s hb.1 (by simpa using ha.2) (by omega)) ?_
  (repeat walk_at "w1")
  refine R.mul_i (mulOk s t (by simpa using ha.2) (by simpa using hb.2) (by omega)) ?_
  (repeat walk_at "w1")
  refine w_ratio (Int.mul_pos (by omega) (by omega)) ?_ ?_
  · rw [Int.natAbs_mul, Int.natAbs_natCast, Int.natAbs_natCast]
    have : a.den * b.den < 2 ^ (s + t) := by
      rw [Nat.pow_add]
      exact Nat.mul_lt_mul'' ha.2 hb.2
    exact Nat.lt_of_lt_of_le ((Nat.log2_lt (Nat.ne_of_gt (Nat.mul_pos da db))).mpr this) (by omega)
  · (repeat walk_at "w1")
    rw [mkRat_sub]
    exact h
theorem mkRat_mul (a b : Rat) : mkRat (a.num * b.num) ((a.den : Int) * (b.den : Int)).toNat = a * b := by
  rw [Rat.mul_def, Rat.normalize_eq_mkRat]
  congr 1
theorem sz_mk (n : Int) (d m : Nat) (hd : 0 < d) (h1 : n.natAbs < 2 ^ m) (h2 : d < 2 ^ m) : Sz m (mkRat n d) := by
  rw [← Rat.normalize_eq_mkRat (by omega : d ≠ 0), Rat.normalize_eq]
  refine ⟨?_, ?_⟩
  · refine Nat.lt_of_le_of_lt ?_ h1
    show (n / ((n.natAbs.gcd d : Nat) : Int)).natAbs ≤ _
    rw [Int.natAbs_ediv_of_dvd (Int.ofNat_dvd_left.mpr (Nat.gcd_dvd_left _ _)), Int.natAbs_natCast]
    exact Nat.div_le_self _ _
  · exact Nat.lt_of_le_of_lt (Nat.div_le_self _ _) h2
theorem sz_add {a b : Rat} {s t : Nat} (ha : Sz s a) (hb : Sz t b) : Sz (s + t + 1) (a + b) := by
  rw [← mkRat_add]
  have da := a.den_pos
  have db := b.den_pos
  have p1 : (a.num * (b.den : Int)).natAbs < 2 ^ (s + t) := by
    rw [Int.natAbs_mul, Nat.pow_add]
    exact Nat.mul_lt_mul'' ha.1 (by simpa using hb.2)
  have p2 : (b.num * (a.den : Int)).natAbs < 2 ^ (s + t) := by
    rw [Int.natAbs_mul, Nat.add_comm s t, Nat.pow_add]
    exact Nat.mul_lt_mul'' hb.1 (by simpa using ha.2)
  have p3 : a.den * b.den < 2 ^ (s + t) := by
    rw [Nat.pow_add]
    exact Nat.mul_lt_mul'' ha.2 hb.2
  have e : ((a.den : Int) * (b.den : Int)).toNat = a.den * b.den := by
    rw [← Int.natCast_mul, Int.toNat_natCast]
  rw [e]
  have q : 2 ^ (s + t + 1) = 2 ^ (s + t) + 2 ^ (s + t) := by rw [Nat.pow_succ]; omega
  refine sz_mk _ _ _ (Nat.mul_pos da db) ?_ (by omega)
  have := Int.natAbs_add_le (a.num * (b.den : Int)) (b.num * (a.den : Int))
  omega
theorem w_ratioN {P : List FDef} [Nd P] [Has P d_ratio] [Has P d_lowest] [Has P d_divisor_of] {k : Nat} {n l : Int} {Q E} (hl : l < 0) (hb : l.natAbs.log2 < 9000) (h : Q (.dat (fr (mkRat (-n) (-l).toNat))) []) : gam P (k + 3) "ratio" [.dat (.int n), .dat (.int l)] Q E := by
  refine R.opn Nd.nd (Has.mem (d := d_ratio)) rfl ?_
  simp only [d_ratio, List.map, List.replicate, List.length_cons, List.length_nil, List.cons_append, List.nil_append, Nat.reduceAdd, Nat.reduceSub]
  (repeat walk_at "w1")
  refine R.iteD (fun g => absurd g (by omega)) fun _ => ?_
  (repeat walk_at "w1")
  obtain ⟨g1, g2⟩ := gcd_div (-n) (l := -l) (by omega) (by rw [Int.natAbs_neg]; exact hb)
  refine w_lowest (ns := [-n, -l]) g1 g2 ?_
  (repeat walk_at "w1")
  obtain ⟨d, e⟩ := Int.eq_ofNat_of_zero_le (show 0 ≤ -l by omega)
  rw [e] at h ⊢
  have := low_fr (-n) d (by omega)
  simp only [List.map] at this
  rw [this]
  exact h
theorem over_pos (a b : Rat) (h : 0 < b.num) : mkRat (a.num * (b.den : Int)) ((a.den : Int) * b.num).toNat = a / b := by
  obtain ⟨n, e⟩ := Int.eq_ofNat_of_zero_le (Int.le_of_lt h)
  have hi : b⁻¹ = mkRat b.den n := by
    rw [Rat.inv_def, e, Rat.divInt_ofNat]
  have e2 : ((a.den : Int) * b.num).toNat = a.den * n := by
    rw [e, ← Int.natCast_mul, Int.toNat_natCast]
  rw [Rat.div_def, hi, e2]
  conv => rhs; rw [← Rat.mkRat_self a]
  rw [Rat.mkRat_mul_mkRat]
theorem w_over {P : List FDef} [Nd P] [Has P d_over] [Has P d_ratio] [Has P d_lowest] [Has P d_divisor_of] {k : Nat} {a b : Rat} {s t : Nat} {Q E} (ha : Sz s a) (hb : Sz t b) (hs : s + t ≤ 8000) (hp : 0 < b.num) (h : Q (.dat (fr (a / b))) []) : gam P (k + 4) "over" [.dat (fr a), .dat (fr b)] Q E := by
  refine R.opn Nd.nd (Has.mem (d := d_over)) rfl ?_
  simp only [d_over, List.map, List.replicate, List.length_cons, List.length_nil, List.cons_append, List.nil_append, Nat.reduceAdd, Nat.reduceSub]
  simp only [fr]
  have da := a.den_pos
  have db := b.den_pos
  (repeat walk_at "w1")
  refine R.mul_i (mulOk s t ha.1 (by simpa using hb.2) (by omega)) ?_
  (repeat walk_at "w1")
  refine R.mul_i (mulOk s t (by simpa using ha.2) hb.1 (by omega)) ?_
  (repeat walk_at "w1")
  refine w_ratio (Int.mul_pos (by omega) hp) ?_ ?_
  · rw [Int.natAbs_mul, Int.natAbs_natCast]
    have : a.den * b.num.natAbs < 2 ^ (s + t) := by
      rw [Nat.pow_add]
      exact Nat.mul_lt_mul'' ha.2 hb.1
    exact Nat.lt_of_lt_of_le ((Nat.log2_lt (Nat.ne_of_gt (Nat.mul_pos da (by omega)))).mpr this) (by omega)
  · (repeat walk_at "w1")
    rw [over_pos a b hp]
    exact h
def isWhole : D → Bool
  | .int _ => true
  | _ => false
theorem w_is_whole {P : List FDef} [Nd P] [Has P d_is_whole] {k : Nat} {d : D} {Q E} (h : Q (.dat (.bool (isWhole d))) []) : gam P (k + 1) "is_whole" [.dat d] Q E := by
  refine R.opn Nd.nd (Has.mem (d := d_is_whole)) rfl ?_
  simp only [d_is_whole, List.map, List.replicate, List.length_cons, List.length_nil, List.cons_append, List.nil_append, Nat.reduceAdd, Nat.reduceSub]
  (repeat walk_at "w1")
  cases d <;> exact h
theorem w_are_wholes {P : List FDef} [Nd P] [Has P d_are_wholes] [Has P d_is_whole] {k : Nat} {ns : List Int} {Q E} (h : Q (.dat (.bool true)) []) : gam P (k + 2) "are_wholes" [.dat (.tuple (ns.map .int)), .dat (.int ns.length)] Q E := by
  refine R.opn Nd.nd (Has.mem (d := d_are_wholes)) rfl ?_
  simp only [d_are_wholes, List.map, List.replicate, List.length_cons, List.length_nil, List.cons_append, List.nil_append, Nat.reduceAdd, Nat.reduceSub]
  (repeat walk_at "w1")
  refine R.ifT ?_
  (repeat walk_at "w1")
  rw [decide_eq_true (show ((ns.map PyData.int).length : Int) = (ns.length : Int) by simp)]
  (repeat walk_at "w1")
  refine ⟨fun i hi b xs e => ?_, ?_⟩
  · rcases List.mem_singleton.mp hi with rfl
    cases e
  simp only [wpo, wipeR]
  refine comp_map (fun _ => .bool true) rfl (fun _ => rfl) trivial _ _ (fun x hx nx hn => ?_) ?_
  · obtain ⟨n, _, rfl⟩ := List.mem_map.mp hx
    (repeat walk_at "w1")
    refine w_is_whole ?_
    (repeat walk_at "w1")
    exact hn
  · (repeat walk_at "w1")
    have e2 : [] ++ List.map (fun _ => PyData.bool true) (ns.map PyData.int) = (ns.map fun _ => true).map PyData.bool := by simp
    rw [e2]
    refine R.all_bs ?_
    have e3 : (ns.map fun _ => true).all id = true := by simp
    rw [e3]
    (repeat walk_at "w1")
    exact h
theorem w_is_ratio {P : List FDef} [Nd P] [Has P d_is_ratio] [Has P d_are_wholes] [Has P d_is_whole] [Has P d_divisor_of] {k : Nat} {q : Rat} {Q E} (h : Q (.dat (.bool true)) []) : gam P (k + 3) "is_ratio" [.dat (fr q)] Q E := by
  refine R.opn Nd.nd (Has.mem (d := d_is_ratio)) rfl ?_
  simp only [d_is_ratio, List.map, List.replicate, List.length_cons, List.length_nil, List.cons_append, List.nil_append, Nat.reduceAdd, Nat.reduceSub]
  simp only [fr]
  have dq := q.den_pos
  (repeat walk_at "w1")
  refine w_are_wholes (ns := [q.num, (q.den : Int)]) ?_
  (repeat walk_at "w1")
  refine R.iteD (fun _ => ?_) fun g => absurd (by omega) g
  (repeat walk_at "w1")
  refine w_divisor_of (ns := [q.num, (q.den : Int)]) (.inl rfl) ?_
  (repeat walk_at "w1")
  have e : (gcds 0 [q.num, (q.den : Int)] : Int) = 1 := by
    rw [gcds_two, Int.natAbs_natCast]
    have := q.reduced
    unfold Nat.Coprime at this
    rw [this]; rfl
  rw [decide_eq_true e]
  (repeat walk_at "w1")
  exact h
theorem w_is_below {P : List FDef} [Nd P] [Has P d_is_below] {k : Nat} {a b : Rat} {s t : Nat} {Q E} (ha : Sz s a) (hb : Sz t b) (hs : s + t ≤ 8000) (h : Q (.dat (.bool (decide (a < b)))) []) : gam P (k + 1) "is_below" [.dat (fr a), .dat (fr b)] Q E := by
  refine R.opn Nd.nd (Has.mem (d := d_is_below)) rfl ?_
  simp only [d_is_below, List.map, List.replicate, List.length_cons, List.length_nil, List.cons_append, List.nil_append, Nat.reduceAdd, Nat.reduceSub]
  simp only [fr]
  (repeat walk_at "w1")
  refine R.mul_i (mulOk s t ha.1 (by simpa using hb.2) (by omega)) ?_
  (repeat walk_at "w1")
  refine R.mul_i (mulOk t s hb.1 (by simpa using ha.2) (by omega)) ?_
  (repeat walk_at "w1")
  have e : decide (a.num * (b.den : Int) < b.num * (a.den : Int)) = decide (a < b) := decide_eq_decide.mpr (Rat.lt_iff a b).symm
  rw [e]
  exact h
theorem w_is_share {P : List FDef} [Nd P] [Has P d_is_share] [Has P d_is_ratio] [Has P d_are_wholes] [Has P d_is_whole] [Has P d_divisor_of] {k : Nat} {q : Rat} {Q E} (h0 : 0 ≤ q.num) (h1 : q.num ≤ q.den) (h : Q (.dat (.bool true)) []) : gam P (k + 4) "is_share" [.dat (fr q)] Q E := by
  refine R.opn Nd.nd (Has.mem (d := d_is_share)) rfl ?_
  simp only [d_is_share, List.map, List.replicate, List.length_cons, List.length_nil, List.cons_append, List.nil_append, Nat.reduceAdd, Nat.reduceSub]
  (repeat walk_at "w1")
  refine w_is_ratio ?_
  simp only [fr]
  (repeat walk_at "w1")
  refine R.iteD (fun _ => ?_) fun g => absurd h0 g
  (repeat walk_at "w1")
  rw [decide_eq_true h1]
  exact h
end Lib
namespace Lib
open PySem DL L2
local macro_rules | `(tactic| walk_at "w1") => `(tactic| (first
  | (with_reducible refine R.lit ?_) | (with_reducible refine R.con ?_)
  | ((with_reducible refine' R.var ?g ?h); (case g => exact rfl))
  | ((with_reducible refine' R.varO ?g ?h); (case g => exact rfl))
  | (with_reducible refine R.op2 ?_) | (with_reducible refine R.cmp ?_) | (with_reducible refine R.idx ?_) | (with_reducible refine R.slc ?_) | (with_reducible refine R.oN ?_) | (with_reducible refine R.oS ?_)
  | (with_reducible refine R.tcmp ?_) | (with_reducible refine R.tnot ?_) | (with_reducible refine R.tand ?_) | (with_reducible refine R.tor ?_) | (with_reducible refine R.tcall ?_) | (with_reducible refine R.tbi ?_) | (with_reducible refine R.tisN ?_) | (with_reducible refine R.tnotN ?_) | (with_reducible refine R.tchain ?_) | (with_reducible refine R.tvar ?_) | (with_reducible refine R.tcallK ?_)
  | (with_reducible refine R.isN ?_) | (with_reducible refine R.notN ?_) | (with_reducible refine R.chain ?_) | (with_reducible refine R.neg ?_) | (with_reducible refine R.not ?_) | (with_reducible refine R.and ?_) | (with_reducible refine R.or ?_) | (with_reducible refine R.ife ?_)
  | (with_reducible refine R.tup ?_) | (with_reducible refine R.lst ?_) | (with_reducible refine R.call ?_) | (with_reducible refine R.callK ?_) | (with_reducible refine R.callIo ?_) | (with_reducible refine R.bi ?_) | (with_reducible refine R.comp ?_) | (with_reducible refine R.index ?_) | (with_reducible refine R.repL ?_) | (with_reducible refine R.listR ?_)
  | (with_reducible refine R.an ?_) | (with_reducible refine R.ac ?_) | (with_reducible refine R.en ?_) | (with_reducible refine R.ec ?_) | (with_reducible refine R.ed ?_) | (with_reducible refine R.eo ?_)
  | ((with_reducible refine' R.erd ?g ?h); (case g => exact rfl)) | ((with_reducible refine' R.ero ?g ?h); (case g => exact rfl))
  | ((with_reducible refine' R.w1 ?g ?h); (case g => exact rfl)) | ((with_reducible refine' R.w2 ?g ?g' ?h); (case g => exact rfl); (case g' => exact rfl)) | ((with_reducible refine' R.ws ?g ?h); (case g => exact rfl))
  | (with_reducible refine R.fval rfl ?_) | (with_reducible refine R.f_l ?_) | (with_reducible refine R.f_t ?_) | (with_reducible refine R.ival rfl ?_) | (with_reducible refine R.i_l ?_) | (with_reducible refine R.i_t ?_) | (with_reducible refine R.i_o ?_) | ((with_reducible refine' R.i_r ?g ?h); (case g => exact rfl))
  | (with_reducible refine R.irange ?_) | (with_reducible refine R.frange ?_) | (with_reducible refine R.ienum ?_) | (with_reducible refine R.fenum ?_) | (with_reducible refine R.izip ?_) | (with_reducible refine R.fzip ?_) | (with_reducible refine R.irev ?_) | (with_reducible refine R.frev ?_) | ((with_reducible refine' R.zip_at ?g ?g' ?h); (case g => exact rfl); (case g' => exact rfl)) | (with_reducible refine R.eq_i ?_) | (with_reducible refine R.ne_i ?_) | (with_reducible refine R.sretN ?_)
  | (with_reducible refine R.sn ?_) | (with_reducible refine R.sc ?_) | (with_reducible refine R.sasg ?_) | (with_reducible refine R.spar ?_) | (with_reducible refine R.sexpr ?_) | (with_reducible refine R.sapp ?_) | (with_reducible refine R.sext ?_) | (with_reducible refine R.sret ?_) | (with_reducible refine R.site ?_) | (with_reducible refine R.sfor ?_)
  | ((with_reducible refine R.nd_ ?n ?h); (case n => first | exact R.nio rfl rfl | exact R.nio rfl (DL.NoOw.ok (by assumption)))) | ((with_reducible refine R.no_ ?n ?h); (case n => first | exact R.nio rfl rfl | exact R.nio rfl (DL.NoOw.ok (by assumption)))) | ((with_reducible refine R.nr_ ?n ?h); (case n => first | exact R.nio rfl rfl | exact R.nio rfl (DL.NoOw.ok (by assumption))))
  | ((with_reducible refine' R.an_name ?n ?h); (case n => first | assumption | exact R.nio rfl rfl | exact R.nio rfl (DL.NoOw.ok (by assumption)))) | ((with_reducible refine' R.an_two ?n ?m ?h); (case n => first | assumption | exact R.nio rfl rfl | exact R.nio rfl (DL.NoOw.ok (by assumption))); (case m => first | assumption | exact R.nio rfl rfl | exact R.nio rfl (DL.NoOw.ok (by assumption)))) | ((with_reducible refine' R.an_three ?n ?m ?o ?h); (case n => first | assumption | exact R.nio rfl rfl | exact R.nio rfl (DL.NoOw.ok (by assumption))); (case m => first | assumption | exact R.nio rfl rfl | exact R.nio rfl (DL.NoOw.ok (by assumption))); (case o => first | assumption | exact R.nio rfl rfl | exact R.nio rfl (DL.NoOw.ok (by assumption)))) | (with_reducible refine R.tt rfl ?_) | (with_reducible refine R.tn ?_) | (with_reducible refine R.tc ?_) | (with_reducible refine R.subd ?_) | ((with_reducible refine' R.own_and ?g ?h); (case g => exact rfl)) | ((with_reducible refine' R.put_at ?g ?g' ?h); (case g => exact rfl); (case g' => exact rfl)) | ((with_reducible refine' R.io_ref ?g ?h); (case g => exact rfl)) | (with_reducible refine R.io_own ?_) | (with_reducible refine R.one_1 ?_) | (with_reducible refine R.setn ?_) | (with_reducible refine R.setd ?_) | (with_reducible refine R.seto ?_) | (with_reducible refine R.setr ?_)
  | ((with_reducible refine' R.find ?g ?h); (case g => exact rfl)) | ((with_reducible refine' R.fino ?g ?h); (case g => exact rfl)) | ((with_reducible refine' R.finr ?g ?g' ?h); (case g => exact rfl); (case g' => exact rfl)) | ((with_reducible refine' R.find' ?g ?g' ?h); (case g => exact rfl); (case g' => exact rfl))
  | (with_reducible refine R.ifT ?_) | (with_reducible refine R.ifF ?_)
  | ((with_reducible refine' R.pow_i ?g ?h); (case g => decide)) | ((with_reducible refine' R.mul_i ?g ?h); (case g => exact mulOk 60 60 (by omega) (by omega) (by decide))) | ((with_reducible refine' R.fdiv_i ?g ?h); (case g => exact divOk (by omega) (by omega))) | ((with_reducible refine' R.mod_i ?g ?h); (case g => omega))
  | (with_reducible refine R.add_i ?_) | (with_reducible refine R.sub_i ?_) | (with_reducible refine R.lt_i ?_) | (with_reducible refine R.le_i ?_) | (with_reducible refine R.gt_i ?_) | (with_reducible refine R.ge_i ?_)
  | ((with_reducible refine' R.idx_l ?g ?h); (case g => exact rfl)) | ((with_reducible refine' R.idx_t ?g ?h); (case g => exact rfl)) | (with_reducible refine R.slc_l ?_) | (with_reducible refine R.slc_t ?_)
  | (with_reducible refine R.len_l ?_) | (with_reducible refine R.len_t ?_) | (with_reducible refine R.tuple_l ?_) | (with_reducible refine R.tuple_t ?_) | (with_reducible refine R.list_l ?_) | (with_reducible refine R.list_t ?_) | (with_reducible refine R.abs_i ?_) | (with_reducible refine R.int_i ?_) | (with_reducible refine R.gcd_i ?_)
  | (with_reducible refine R.isint ?_) | (with_reducible refine R.isbool ?_) | (with_reducible refine R.istuple ?_) | (with_reducible refine R.islist ?_)
  | (with_reducible refine R.sum_is ?_) | (with_reducible refine R.all_bs ?_) | ((with_reducible refine R.any_bs ?_))); (try dsimp only [List.map, List.set, Int.reduceToNat, Bool.not_true, Bool.not_false, DL.restR, DL.gt, DL.wipeR]))
/-- what the tap holds -/
def Tap (m : Nat) (xs : List D) : Prop := ∃ a b c : Int, xs = [.int a, .int b, .int c] ∧ 0 ≤ a ∧ 0 ≤ b ∧ b < 2147483549 ∧ 0 ≤ c ∧ c ≤ m
theorem Tap.mono {m n : Nat} {xs : List D} (h : Tap m xs) (k : m ≤ n) : Tap n xs := by
  obtain ⟨a, b, c, e, h1, h2, h3, h4, h5⟩ := h
  exact ⟨a, b, c, e, h1, h2, h3, h4, by omega⟩
theorem w_dropT {P : List FDef} [Nd P] [Has P d__law_drop] {k m : Nat} {xs : List D} {t : Int} {Q E} (hx : Tap m xs) (hm : m < 1000000) (ht : 0 < t) (ht2 : t < 1000000000)
    (h : ∀ (ys : List D) (r : Nat), Tap (m + 1) ys → (r : Int) < t → Q (.dat (.int r)) [ys]) : gam P (k + 1) "_law_drop" [.own true xs, .dat (.int t)] Q E := by
  obtain ⟨a, b, c, rfl, h1, h2, h3, h4, h5⟩ := hx
  refine w_drop h1 h2 h3 h4 (by omega) ht ht2 fun a' b' c' r g1 g2 g3 g4 g5 g6 g7 => ?_
  obtain ⟨r, rfl⟩ := Int.eq_ofNat_of_zero_le g6
  exact h _ r ⟨a', b', c', rfl, g1, g2, g3, g4, by omega⟩ g7
theorem atI_mem {xs : List D} {r : Nat} (h : r < xs.length) : ∃ x, x ∈ xs ∧ atI xs (r : Int) = some x := ⟨xs[r], List.getElem_mem h, atI_nat (by simp [h])⟩
theorem w_of {P : List FDef} [Nd P] [Has P d__law_of] [Has P d__law_drop] {k m : Nat} {xs ys : List D} {d : D} {Q E} (hx : Tap m xs) (hm : m < 1000000) (hd : d = .list ys ∨ d = .tuple ys) (hy : ys ≠ []) (hl : ys.length < 1000000)
    (h : ∀ (zs : List D) (x : D), Tap (m + 1) zs → x ∈ ys → Q (.dat x) [zs]) : gam P (k + 2) "_law_of" [.own true xs, .dat d] Q E := by
  have hp : 0 < ys.length := List.length_pos_iff.mpr hy
  refine R.opn Nd.nd (Has.mem (d := d__law_of)) rfl ?_
  simp only [d__law_of, List.map, List.replicate, List.length_cons, List.length_nil, List.cons_append, List.nil_append, Nat.reduceAdd, Nat.reduceSub]
  rcases hd with rfl | rfl
  · (repeat walk_at "w1")
    refine w_dropT hx hm (by omega) (by omega) fun zs r hz hr => ?_
    (repeat walk_at "w1")
    obtain ⟨x, h1, h2⟩ := atI_mem (xs := ys) (r := r) (by omega)
    refine R.idx_l h2 ?_
    (repeat walk_at "w1")
    exact h _ _ hz h1
  · (repeat walk_at "w1")
    refine w_dropT hx hm (by omega) (by omega) fun zs r hz hr => ?_
    (repeat walk_at "w1")
    obtain ⟨x, h1, h2⟩ := atI_mem (xs := ys) (r := r) (by omega)
    refine R.idx_t h2 ?_
    (repeat walk_at "w1")
    exact h _ _ hz h1
theorem w_gcd {P : List FDef} [Nd P] [Has P d__law_gcd] {k : Nat} {a b : Int} {Q E} (h : Q (.dat (.int ((Nat.gcd a.natAbs b.natAbs : Nat) : Int))) []) : gam P (k + 1) "_law_gcd" [.dat (.int a), .dat (.int b)] Q E := by
  refine R.opn Nd.nd (Has.mem (d := d__law_gcd)) rfl ?_
  simp only [d__law_gcd, List.map, List.replicate, List.length_cons, List.length_nil, List.cons_append, List.nil_append, Nat.reduceAdd, Nat.reduceSub]
  (repeat walk_at "w1")
  have ea : (if a < 0 then -a else a) = (a.natAbs : Int) := by split <;> omega
  have eb : (if b < 0 then -b else b) = (b.natAbs : Int) := by split <;> omega
  rw [ea, eb]
  refine R.swhile (fun m ρ => ∃ x y : Nat, m = y ∧ ρ = [some (.dat (.int x)), some (.dat (.int y))] ∧ Nat.gcd x y = Nat.gcd a.natAbs b.natAbs) b.natAbs ⟨_, _, rfl, rfl, rfl⟩ ?_
  rintro y ρ ⟨x, _, rfl, rfl, e⟩
  (repeat walk_at "w1")
  refine R.iteD (fun g => ?_) fun g => ?_
  · (repeat walk_at "w1")
    have em : (x : Int) % (y : Int) = ((x % y : Nat) : Int) := by omega
    rw [em]
    have hy : 0 < y := by omega
    exact ⟨x % y, Nat.mod_lt _ hy, y, x % y, rfl, rfl, by rw [← e, Nat.gcd_comm x y, Nat.gcd_rec y x, Nat.gcd_comm]⟩
  · (repeat walk_at "w1")
    have : y = 0 := by omega
    subst this
    rw [Nat.gcd_zero_right] at e
    rw [e]
    exact h
theorem log_gcd (n : Int) {l : Nat} (hl : 0 < l) (hb : l < 2 ^ 9000) : 0 < Nat.gcd n.natAbs l ∧ DivOk (Nat.gcd n.natAbs l : Int) := by
  have h0 : 0 < Nat.gcd n.natAbs l := Nat.gcd_pos_of_pos_right _ hl
  refine ⟨h0, by omega, ?_⟩
  have le : Nat.gcd n.natAbs l ≤ l := Nat.gcd_le_right _ hl
  rw [Int.natAbs_natCast]
  exact (Nat.log2_lt (by omega)).mpr (Nat.lt_of_le_of_lt le hb)
theorem w_thin {P : List FDef} [Nd P] [Has P d__law_thin] [Has P d__law_gcd] {k : Nat} {n : Int} {l : Nat} {Q E} (hl : 0 < l) (hb : l < 2 ^ 9000) (h : Q (.dat (fr (mkRat n l))) []) : gam P (k + 2) "_law_thin" [.dat (.tuple [.int n, .int l])] Q E := by
  obtain ⟨g0, gd⟩ := log_gcd n hl hb
  have e := low_fr n l hl
  rw [gcds_two, Int.natAbs_natCast] at e
  simp only [List.map] at e
  refine R.opn Nd.nd (Has.mem (d := d__law_thin)) rfl ?_
  simp only [d__law_thin, List.map, List.replicate, List.length_cons, List.length_nil, List.cons_append, List.nil_append, Nat.reduceAdd, Nat.reduceSub]
  (repeat walk_at "w1")
  refine R.an_name (R.nio rfl rfl) ?_
  (repeat walk_at "w1")
  refine R.iteN (fun _ => ?_) fun z => absurd z (by decide)
  (repeat walk_at "w1")
  refine w_gcd ?_
  (repeat walk_at "w1")
  refine R.an_name (R.nio rfl rfl) ?_
  (repeat walk_at "w1")
  have e0 : Nat.gcd (0 : Int).natAbs n.natAbs = n.natAbs := Nat.gcd_zero_left _
  rw [e0]
  have fin : wpSs (gam P (k + 1)) [.ret (.ife (.cmp .gt (.var 1) (.lit (.int 1))) (.bi .tuple [.comp (.op2 .fdiv (.var 2) (.var 1)) (.name 2) (.var 0) none [2]]) (.bi .tuple [.var 0]))] E
      { nx := DL.fin [.dat (.tuple [.int n, .int l])] Q (.dat .none), rt := DL.fin [.dat (.tuple [.int n, .int l])] Q, bk := fun _ => False, ct := fun _ => False } [some (.dat (.tuple [.int n, .int l])), some (.dat (.int (Nat.gcd n.natAbs l : Nat))), some (.dat (.int l))] := by
    (repeat walk_at "w1")
    refine R.iteD (fun g1 => ?_) fun g1 => ?_
    · (repeat walk_at "w1")
      refine ⟨fun i hi b xs e => ?_, ?_⟩
      · rcases List.mem_singleton.mp hi with rfl
        cases e
      simp only [wpo, wipeR]
      refine comp_l (α := Int) PyData.int (fun z => .int (z / (Nat.gcd n.natAbs l : Nat))) rfl (fun _ => rfl) trivial [n, (l : Int)] [] (fun x hx nx hn => ?_) ?_
      · (repeat walk_at "w1")
        refine R.fdiv_i gd ?_
        (repeat walk_at "w1")
        exact hn
      · (repeat walk_at "w1")
        simp only [List.nil_append, List.map]
        rw [e]
        exact h
    · (repeat walk_at "w1")
      have g2 : Nat.gcd n.natAbs l = 1 := by omega
      rw [g2] at e
      simp only [Int.natCast_one, Int.ediv_one] at e
      rw [e]
      exact h
  refine R.iteN (fun g => ?_) fun g => ?_
  · (repeat walk_at "w1")
    refine w_gcd ?_
    (repeat walk_at "w1")
    simp only [Int.natAbs_natCast]
    exact fin
  · (repeat walk_at "w1")
    have e1 : Nat.gcd n.natAbs l = 1 := by
      have : n.natAbs = 1 := by omega
      rw [this, Nat.gcd_one_left]
    rw [e1] at fin
    exact fin
theorem w_frac {P : List FDef} [Nd P] [Has P d__law_frac] [Has P d__law_thin] [Has P d__law_gcd] {k : Nat} {n : Int} {l : Nat} {Q E} (hl : 0 < l) (hb : l < 2 ^ 9000) (h : Q (.dat (fr (mkRat n l))) []) : gam P (k + 3) "_law_frac" [.dat (.int n), .dat (.int l)] Q E := by
  refine R.opn Nd.nd (Has.mem (d := d__law_frac)) rfl ?_
  simp only [d__law_frac, List.map, List.replicate, List.length_cons, List.length_nil, List.cons_append, List.nil_append, Nat.reduceAdd, Nat.reduceSub]
  (repeat walk_at "w1")
  refine R.iteD (fun _ => ?_) fun g => absurd (by omega) g
  (repeat walk_at "w1")
  refine w_thin hl hb ?_
  (repeat walk_at "w1")
  exact h
theorem w_fracN {P : List FDef} [Nd P] [Has P d__law_frac] [Has P d__law_thin] [Has P d__law_gcd] {k : Nat} {n : Int} {l : Nat} {Q E} (hl : 0 < l) (hb : l < 2 ^ 9000) (h : Q (.dat (fr (mkRat (-n) l))) []) : gam P (k + 3) "_law_frac" [.dat (.int n), .dat (.int (-(l : Int)))] Q E := by
  refine R.opn Nd.nd (Has.mem (d := d__law_frac)) rfl ?_
  simp only [d__law_frac, List.map, List.replicate, List.length_cons, List.length_nil, List.cons_append, List.nil_append, Nat.reduceAdd, Nat.reduceSub]
  (repeat walk_at "w1")
  refine R.iteD (fun g => absurd g (by omega)) fun _ => ?_
  (repeat walk_at "w1")
  have e1 : 0 - n = -n := by omega
  have e2 : 0 - -(l : Int) = l := by omega
  rw [e1, e2]
  refine w_thin hl hb ?_
  (repeat walk_at "w1")
  exact h
theorem den_mul_lt {a b : Rat} {s t : Nat} (ha : Sz s a) (hb : Sz t b) (h : s + t ≤ 9000) : 0 < a.den * b.den ∧ a.den * b.den < 2 ^ 9000 := by
  refine ⟨Nat.mul_pos a.den_pos b.den_pos, ?_⟩
  have : a.den * b.den < 2 ^ (s + t) := by
    rw [Nat.pow_add]
    exact Nat.mul_lt_mul'' ha.2 hb.2
  exact Nat.lt_of_lt_of_le this (Nat.pow_le_pow_right (by omega) h)
theorem wl_add {P : List FDef} [Nd P] [Has P d__law_add] [Has P d__law_frac] [Has P d__law_thin] [Has P d__law_gcd] {k : Nat} {a b : Rat} {s t : Nat} {Q E} (ha : Sz s a) (hb : Sz t b) (hs : s + t ≤ 8000) (h : Q (.dat (fr (a + b))) []) : gam P (k + 4) "_law_add" [.dat (fr a), .dat (fr b)] Q E := by
  refine R.opn Nd.nd (Has.mem (d := d__law_add)) rfl ?_
  simp only [d__law_add, List.map, List.replicate, List.length_cons, List.length_nil, List.cons_append, List.nil_append, Nat.reduceAdd, Nat.reduceSub]
  simp only [fr]
  obtain ⟨d1, d2⟩ := den_mul_lt ha hb (by omega)
  (repeat walk_at "w1")
  refine R.mul_i (mulOk s t ha.1 (by simpa using hb.2) (by omega)) ?_
  (repeat walk_at "w1")
  refine R.mul_i (mulOk t s hb.1 (by simpa using ha.2) (by omega)) ?_
  (repeat walk_at "w1")
  refine R.mul_i (mulOk s t (by simpa using ha.2) (by simpa using hb.2) (by omega)) ?_
  (repeat walk_at "w1")
  rw [← Int.natCast_mul]
  refine w_frac d1 d2 ?_
  (repeat walk_at "w1")
  have e := mkRat_add a b
  rw [← Int.natCast_mul, Int.toNat_natCast] at e
  rw [e]; exact h
end Lib
namespace Lib
open PySem DL L2
local macro_rules | `(tactic| walk_at "w1") => `(tactic| (first
  | (with_reducible refine R.lit ?_) | (with_reducible refine R.con ?_)
  | ((with_reducible refine' R.var ?g ?h); (case g => exact rfl))
  | ((with_reducible refine' R.varO ?g ?h); (case g => exact rfl))
  | (with_reducible refine R.op2 ?_) | (with_reducible refine R.cmp ?_) | (with_reducible refine R.idx ?_) | (with_reducible refine R.slc ?_) | (with_reducible refine R.oN ?_) | (with_reducible refine R.oS ?_)
  | (with_reducible refine R.tcmp ?_) | (with_reducible refine R.tnot ?_) | (with_reducible refine R.tand ?_) | (with_reducible refine R.tor ?_) | (with_reducible refine R.tcall ?_) | (with_reducible refine R.tbi ?_) | (with_reducible refine R.tisN ?_) | (with_reducible refine R.tnotN ?_) | (with_reducible refine R.tchain ?_) | (with_reducible refine R.tvar ?_) | (with_reducible refine R.tcallK ?_)
  | (with_reducible refine R.isN ?_) | (with_reducible refine R.notN ?_) | (with_reducible refine R.chain ?_) | (with_reducible refine R.neg ?_) | (with_reducible refine R.not ?_) | (with_reducible refine R.and ?_) | (with_reducible refine R.or ?_) | (with_reducible refine R.ife ?_)
  | (with_reducible refine R.tup ?_) | (with_reducible refine R.lst ?_) | (with_reducible refine R.call ?_) | (with_reducible refine R.callK ?_) | (with_reducible refine R.callIo ?_) | (with_reducible refine R.bi ?_) | (with_reducible refine R.comp ?_) | (with_reducible refine R.index ?_) | (with_reducible refine R.repL ?_) | (with_reducible refine R.listR ?_)
  | (with_reducible refine R.an ?_) | (with_reducible refine R.ac ?_) | (with_reducible refine R.en ?_) | (with_reducible refine R.ec ?_) | (with_reducible refine R.ed ?_) | (with_reducible refine R.eo ?_)
  | ((with_reducible refine' R.erd ?g ?h); (case g => exact rfl)) | ((with_reducible refine' R.ero ?g ?h); (case g => exact rfl))
  | ((with_reducible refine' R.w1 ?g ?h); (case g => exact rfl)) | ((with_reducible refine' R.w2 ?g ?g' ?h); (case g => exact rfl); (case g' => exact rfl)) | ((with_reducible refine' R.ws ?g ?h); (case g => exact rfl))
  | (with_reducible refine R.fval rfl ?_) | (with_reducible refine R.f_l ?_) | (with_reducible refine R.f_t ?_) | (with_reducible refine R.ival rfl ?_) | (with_reducible refine R.i_l ?_) | (with_reducible refine R.i_t ?_) | (with_reducible refine R.i_o ?_) | ((with_reducible refine' R.i_r ?g ?h); (case g => exact rfl))
  | (with_reducible refine R.irange ?_) | (with_reducible refine R.frange ?_) | (with_reducible refine R.ienum ?_) | (with_reducible refine R.fenum ?_) | (with_reducible refine R.izip ?_) | (with_reducible refine R.fzip ?_) | (with_reducible refine R.irev ?_) | (with_reducible refine R.frev ?_) | ((with_reducible refine' R.zip_at ?g ?g' ?h); (case g => exact rfl); (case g' => exact rfl)) | (with_reducible refine R.eq_i ?_) | (with_reducible refine R.ne_i ?_) | (with_reducible refine R.sretN ?_)
  | (with_reducible refine R.sn ?_) | (with_reducible refine R.sc ?_) | (with_reducible refine R.sasg ?_) | (with_reducible refine R.spar ?_) | (with_reducible refine R.sexpr ?_) | (with_reducible refine R.sapp ?_) | (with_reducible refine R.sext ?_) | (with_reducible refine R.sret ?_) | (with_reducible refine R.site ?_) | (with_reducible refine R.sfor ?_)
  | ((with_reducible refine R.nd_ ?n ?h); (case n => first | exact R.nio rfl rfl | exact R.nio rfl (DL.NoOw.ok (by assumption)))) | ((with_reducible refine R.no_ ?n ?h); (case n => first | exact R.nio rfl rfl | exact R.nio rfl (DL.NoOw.ok (by assumption)))) | ((with_reducible refine R.nr_ ?n ?h); (case n => first | exact R.nio rfl rfl | exact R.nio rfl (DL.NoOw.ok (by assumption))))
  | ((with_reducible refine' R.an_name ?n ?h); (case n => first | assumption | exact R.nio rfl rfl | exact R.nio rfl (DL.NoOw.ok (by assumption)))) | ((with_reducible refine' R.an_two ?n ?m ?h); (case n => first | assumption | exact R.nio rfl rfl | exact R.nio rfl (DL.NoOw.ok (by assumption))); (case m => first | assumption | exact R.nio rfl rfl | exact R.nio rfl (DL.NoOw.ok (by assumption)))) | ((with_reducible refine' R.an_three ?n ?m ?o ?h); (case n => first | assumption | exact R.nio rfl rfl | exact R.nio rfl (DL.NoOw.ok (by assumption))); (case m => first | assumption | exact R.nio rfl rfl | exact R.nio rfl (DL.NoOw.ok (by assumption))); (case o => first | assumption | exact R.nio rfl rfl | exact R.nio rfl (DL.NoOw.ok (by assumption)))) | (with_reducible refine R.tt rfl ?_) | (with_reducible refine R.tn ?_) | (with_reducible refine R.tc ?_) | (with_reducible refine R.subd ?_) | ((with_reducible refine' R.own_and ?g ?h); (case g => exact rfl)) | ((with_reducible refine' R.put_at ?g ?g' ?h); (case g => exact rfl); (case g' => exact rfl)) | ((with_reducible refine' R.io_ref ?g ?h); (case g => exact rfl)) | (with_reducible refine R.io_own ?_) | (with_reducible refine R.one_1 ?_) | (with_reducible refine R.setn ?_) | (with_reducible refine R.setd ?_) | (with_reducible refine R.seto ?_) | (with_reducible refine R.setr ?_)
  | ((with_reducible refine' R.find ?g ?h); (case g => exact rfl)) | ((with_reducible refine' R.fino ?g ?h); (case g => exact rfl)) | ((with_reducible refine' R.finr ?g ?g' ?h); (case g => exact rfl); (case g' => exact rfl)) | ((with_reducible refine' R.find' ?g ?g' ?h); (case g => exact rfl); (case g' => exact rfl))
  | (with_reducible refine R.ifT ?_) | (with_reducible refine R.ifF ?_)
  | ((with_reducible refine' R.pow_i ?g ?h); (case g => decide)) | ((with_reducible refine' R.mul_i ?g ?h); (case g => exact mulOk 60 60 (by omega) (by omega) (by decide))) | ((with_reducible refine' R.fdiv_i ?g ?h); (case g => exact divOk (by omega) (by omega))) | ((with_reducible refine' R.mod_i ?g ?h); (case g => omega))
  | (with_reducible refine R.add_i ?_) | (with_reducible refine R.sub_i ?_) | (with_reducible refine R.lt_i ?_) | (with_reducible refine R.le_i ?_) | (with_reducible refine R.gt_i ?_) | (with_reducible refine R.ge_i ?_)
  | ((with_reducible refine' R.idx_l ?g ?h); (case g => exact rfl)) | ((with_reducible refine' R.idx_t ?g ?h); (case g => exact rfl)) | (with_reducible refine R.slc_l ?_) | (with_reducible refine R.slc_t ?_)
  | (with_reducible refine R.len_l ?_) | (with_reducible refine R.len_t ?_) | (with_reducible refine R.tuple_l ?_) | (with_reducible refine R.tuple_t ?_) | (with_reducible refine R.list_l ?_) | (with_reducible refine R.list_t ?_) | (with_reducible refine R.abs_i ?_) | (with_reducible refine R.int_i ?_) | (with_reducible refine R.gcd_i ?_)
  | (with_reducible refine R.isint ?_) | (with_reducible refine R.isbool ?_) | (with_reducible refine R.istuple ?_) | (with_reducible refine R.islist ?_)
  | (with_reducible refine R.sum_is ?_) | (with_reducible refine R.all_bs ?_) | ((with_reducible refine R.any_bs ?_))); (try dsimp only [List.map, List.set, Int.reduceToNat, Bool.not_true, Bool.not_false, DL.restR, DL.gt, DL.wipeR]))
theorem Sz.mono {s t : Nat} {q : Rat} (h : Sz s q) (k : s ≤ t) : Sz t q := ⟨Nat.lt_of_lt_of_le h.1 (Nat.pow_le_pow_right (by omega) k), Nat.lt_of_lt_of_le h.2 (Nat.pow_le_pow_right (by omega) k)⟩
theorem sz_one : Sz 1 1 := ⟨by decide, by decide⟩
theorem sz_neg {a : Rat} {s : Nat} (h : Sz s a) : Sz s (-a) := ⟨by rw [Rat.neg_num, Int.natAbs_neg]; exact h.1, by rw [Rat.neg_den]; exact h.2⟩
theorem sz_sub {a b : Rat} {s t : Nat} (ha : Sz s a) (hb : Sz t b) : Sz (s + t + 1) (a - b) := by
  rw [Rat.sub_eq_add_neg]; exact sz_add ha (sz_neg hb)
theorem sz_mul {a b : Rat} {s t : Nat} (ha : Sz s a) (hb : Sz t b) : Sz (s + t) (a * b) := by
  rw [← mkRat_mul]
  have e : ((a.den : Int) * (b.den : Int)).toNat = a.den * b.den := by rw [← Int.natCast_mul, Int.toNat_natCast]
  rw [e]
  refine sz_mk _ _ _ (Nat.mul_pos a.den_pos b.den_pos) ?_ ?_
  · rw [Int.natAbs_mul, Nat.pow_add]; exact Nat.mul_lt_mul'' ha.1 hb.1
  · rw [Nat.pow_add]; exact Nat.mul_lt_mul'' ha.2 hb.2
theorem sz_inv {a : Rat} {s : Nat} (h : Sz s a) (h0 : a ≠ 0) : Sz s a⁻¹ := by
  have n0 : a.num ≠ 0 := fun z => h0 (Rat.num_eq_zero.mp z)
  refine ⟨?_, ?_⟩
  · rw [Rat.num_inv, Int.natAbs_mul, Int.natAbs_sign_of_ne_zero n0]; simpa using h.2
  · rw [Rat.den_inv]
    split
    · exact absurd ‹_› n0
    · exact h.1
theorem sz_div {a b : Rat} {s t : Nat} (ha : Sz s a) (hb : Sz t b) (h0 : b ≠ 0) : Sz (s + t) (a / b) := by
  rw [Rat.div_def]; exact sz_mul ha (sz_inv hb h0)
theorem over_neg (a b : Rat) (h : b.num < 0) : mkRat (-(a.num * (b.den : Int))) (-((a.den : Int) * b.num)).toNat = a / b := by
  have := over_pos (-a) (-b) (by rw [Rat.neg_num]; omega)
  rw [Rat.neg_num, Rat.neg_den, Rat.neg_den, Rat.neg_num, Int.neg_mul, Int.mul_neg] at this
  rw [this]; grind
theorem num_ne {b : Rat} (h : b ≠ 0) : b.num ≠ 0 := fun z => h (Rat.num_eq_zero.mp z)
theorem mul_log {x y s t : Nat} (hx : x < 2 ^ s) (hy : y < 2 ^ t) (h : s + t ≤ 9000) (p : 0 < x * y) : (x * y).log2 < 9000 := by
  refine (Nat.log2_lt (by omega)).mpr (Nat.lt_of_lt_of_le (m := 2 ^ (s + t)) ?_ (Nat.pow_le_pow_right (by omega) h))
  rw [Nat.pow_add]; exact Nat.mul_lt_mul'' hx hy
theorem w_overG {P : List FDef} [Nd P] [Has P d_over] [Has P d_ratio] [Has P d_lowest] [Has P d_divisor_of] {k : Nat} {a b : Rat} {s t : Nat} {Q E} (ha : Sz s a) (hb : Sz t b) (hs : s + t ≤ 8000) (h0 : b ≠ 0) (h : Q (.dat (fr (a / b))) []) : gam P (k + 4) "over" [.dat (fr a), .dat (fr b)] Q E := by
  have n0 := num_ne h0
  rcases Int.lt_or_gt_of_ne n0 with g | g
  · have da := a.den_pos
    have neg : (a.den : Int) * b.num < 0 := by
      have := Int.mul_pos (show (0 : Int) < a.den by omega) (show 0 < -b.num by omega)
      rw [Int.mul_neg] at this; omega
    have pn : 0 < a.den * b.num.natAbs := Nat.mul_pos da (by omega)
    refine R.opn Nd.nd (Has.mem (d := d_over)) rfl ?_
    simp only [d_over, List.map, List.replicate, List.length_cons, List.length_nil, List.cons_append, List.nil_append, Nat.reduceAdd, Nat.reduceSub]
    simp only [fr]
    (repeat walk_at "w1")
    refine R.mul_i (mulOk s t ha.1 (by simpa using hb.2) (by omega)) ?_
    (repeat walk_at "w1")
    refine R.mul_i (mulOk s t (by simpa using ha.2) hb.1 (by omega)) ?_
    (repeat walk_at "w1")
    refine w_ratioN neg ?_ ?_
    · rw [Int.natAbs_mul, Int.natAbs_natCast]
      exact mul_log ha.2 hb.1 (by omega) pn
    · (repeat walk_at "w1")
      rw [over_neg a b g]; exact h
  · exact w_over ha hb hs g h
theorem wl_over {P : List FDef} [Nd P] [Has P d__law_over] [Has P d__law_frac] [Has P d__law_thin] [Has P d__law_gcd] {k : Nat} {a b : Rat} {s t : Nat} {Q E} (ha : Sz s a) (hb : Sz t b) (hs : s + t ≤ 8000) (h0 : b ≠ 0) (h : Q (.dat (fr (a / b))) []) : gam P (k + 4) "_law_over" [.dat (fr a), .dat (fr b)] Q E := by
  have n0 := num_ne h0
  have da := a.den_pos
  have pn : 0 < a.den * b.num.natAbs := Nat.mul_pos da (by omega)
  have lt : a.den * b.num.natAbs < 2 ^ 9000 := Nat.lt_of_lt_of_le (m := 2 ^ (s + t)) (by rw [Nat.pow_add]; exact Nat.mul_lt_mul'' ha.2 hb.1) (Nat.pow_le_pow_right (by omega) (by omega))
  refine R.opn Nd.nd (Has.mem (d := d__law_over)) rfl ?_
  simp only [d__law_over, List.map, List.replicate, List.length_cons, List.length_nil, List.cons_append, List.nil_append, Nat.reduceAdd, Nat.reduceSub]
  simp only [fr]
  (repeat walk_at "w1")
  refine R.mul_i (mulOk s t ha.1 (by simpa using hb.2) (by omega)) ?_
  (repeat walk_at "w1")
  refine R.mul_i (mulOk s t (by simpa using ha.2) hb.1 (by omega)) ?_
  (repeat walk_at "w1")
  rcases Int.lt_or_gt_of_ne n0 with g | g
  · have e : (a.den : Int) * b.num = -((a.den * b.num.natAbs : Nat) : Int) := by
      have : b.num = -(b.num.natAbs : Int) := by omega
      rw [this, Int.natCast_mul, Int.mul_neg]; simp
    have e2 := over_neg a b g
    rw [e, Int.neg_neg, Int.toNat_natCast] at e2
    rw [e]
    refine w_fracN pn lt ?_
    (repeat walk_at "w1")
    rw [e2]; exact h
  · have e : (a.den : Int) * b.num = ((a.den * b.num.natAbs : Nat) : Int) := by
      have : b.num = (b.num.natAbs : Int) := by omega
      rw [this, Int.natCast_mul]; simp
    have e2 := over_pos a b g
    rw [e, Int.toNat_natCast] at e2
    rw [e]
    refine w_frac pn lt ?_
    (repeat walk_at "w1")
    rw [e2]; exact h
/-- the side of two fractions -/
def side (a b : Rat) : Int := if b < a then 1 else if a < b then -1 else 0
theorem wl_side {P : List FDef} [Nd P] [Has P d__law_side] {k : Nat} {a b : Rat} {s t : Nat} {Q E} (ha : Sz s a) (hb : Sz t b) (hs : s + t ≤ 8000) (h : Q (.dat (.int (side a b))) []) : gam P (k + 1) "_law_side" [.dat (fr a), .dat (fr b)] Q E := by
  refine R.opn Nd.nd (Has.mem (d := d__law_side)) rfl ?_
  simp only [d__law_side, List.map, List.replicate, List.length_cons, List.length_nil, List.cons_append, List.nil_append, Nat.reduceAdd, Nat.reduceSub]
  simp only [fr]
  (repeat walk_at "w1")
  refine R.mul_i (mulOk s t ha.1 (by simpa using hb.2) (by omega)) ?_
  (repeat walk_at "w1")
  refine R.mul_i (mulOk t s hb.1 (by simpa using ha.2) (by omega)) ?_
  (repeat walk_at "w1")
  unfold side at h
  refine R.iteD (fun g => ?_) fun g => ?_
  · (repeat walk_at "w1")
    rw [if_pos ((Rat.lt_iff b a).mpr (by omega))] at h
    exact h
  · (repeat walk_at "w1")
    rw [if_neg (fun z => g (by have := (Rat.lt_iff b a).mp z; omega))] at h
    refine R.iteD (fun g => ?_) fun g => ?_
    · (repeat walk_at "w1")
      rw [if_pos ((Rat.lt_iff a b).mpr (by omega))] at h
      exact h
    · (repeat walk_at "w1")
      rw [if_neg (fun z => g (by have := (Rat.lt_iff a b).mp z; omega))] at h
      exact h
/-! sums -/
end Lib
namespace Lib
open PySem DL L2
local macro_rules | `(tactic| walk_at "w1") => `(tactic| (first
  | (with_reducible refine R.lit ?_) | (with_reducible refine R.con ?_)
  | ((with_reducible refine' R.var ?g ?h); (case g => exact rfl))
  | ((with_reducible refine' R.varO ?g ?h); (case g => exact rfl))
  | (with_reducible refine R.op2 ?_) | (with_reducible refine R.cmp ?_) | (with_reducible refine R.idx ?_) | (with_reducible refine R.slc ?_) | (with_reducible refine R.oN ?_) | (with_reducible refine R.oS ?_)
  | (with_reducible refine R.tcmp ?_) | (with_reducible refine R.tnot ?_) | (with_reducible refine R.tand ?_) | (with_reducible refine R.tor ?_) | (with_reducible refine R.tcall ?_) | (with_reducible refine R.tbi ?_) | (with_reducible refine R.tisN ?_) | (with_reducible refine R.tnotN ?_) | (with_reducible refine R.tchain ?_) | (with_reducible refine R.tvar ?_) | (with_reducible refine R.tcallK ?_)
  | (with_reducible refine R.isN ?_) | (with_reducible refine R.notN ?_) | (with_reducible refine R.chain ?_) | (with_reducible refine R.neg ?_) | (with_reducible refine R.not ?_) | (with_reducible refine R.and ?_) | (with_reducible refine R.or ?_) | (with_reducible refine R.ife ?_)
  | (with_reducible refine R.tup ?_) | (with_reducible refine R.lst ?_) | (with_reducible refine R.call ?_) | (with_reducible refine R.callK ?_) | (with_reducible refine R.callIo ?_) | (with_reducible refine R.bi ?_) | (with_reducible refine R.comp ?_) | (with_reducible refine R.index ?_) | (with_reducible refine R.repL ?_) | (with_reducible refine R.listR ?_)
  | (with_reducible refine R.an ?_) | (with_reducible refine R.ac ?_) | (with_reducible refine R.en ?_) | (with_reducible refine R.ec ?_) | (with_reducible refine R.ed ?_) | (with_reducible refine R.eo ?_)
  | ((with_reducible refine' R.erd ?g ?h); (case g => exact rfl)) | ((with_reducible refine' R.ero ?g ?h); (case g => exact rfl))
  | ((with_reducible refine' R.w1 ?g ?h); (case g => exact rfl)) | ((with_reducible refine' R.w2 ?g ?g' ?h); (case g => exact rfl); (case g' => exact rfl)) | ((with_reducible refine' R.ws ?g ?h); (case g => exact rfl))
  | (with_reducible refine R.fval rfl ?_) | (with_reducible refine R.f_l ?_) | (with_reducible refine R.f_t ?_) | (with_reducible refine R.ival rfl ?_) | (with_reducible refine R.i_l ?_) | (with_reducible refine R.i_t ?_) | (with_reducible refine R.i_o ?_) | ((with_reducible refine' R.i_r ?g ?h); (case g => exact rfl))
  | (with_reducible refine R.irange ?_) | (with_reducible refine R.frange ?_) | (with_reducible refine R.ienum ?_) | (with_reducible refine R.fenum ?_) | (with_reducible refine R.izip ?_) | (with_reducible refine R.fzip ?_) | (with_reducible refine R.irev ?_) | (with_reducible refine R.frev ?_) | ((with_reducible refine' R.zip_at ?g ?g' ?h); (case g => exact rfl); (case g' => exact rfl)) | (with_reducible refine R.eq_i ?_) | (with_reducible refine R.ne_i ?_) | (with_reducible refine R.sretN ?_)
  | (with_reducible refine R.sn ?_) | (with_reducible refine R.sc ?_) | (with_reducible refine R.sasg ?_) | (with_reducible refine R.spar ?_) | (with_reducible refine R.sexpr ?_) | (with_reducible refine R.sapp ?_) | (with_reducible refine R.sext ?_) | (with_reducible refine R.sret ?_) | (with_reducible refine R.site ?_) | (with_reducible refine R.sfor ?_)
  | ((with_reducible refine R.nd_ ?n ?h); (case n => first | exact R.nio rfl rfl | exact R.nio rfl (DL.NoOw.ok (by assumption)))) | ((with_reducible refine R.no_ ?n ?h); (case n => first | exact R.nio rfl rfl | exact R.nio rfl (DL.NoOw.ok (by assumption)))) | ((with_reducible refine R.nr_ ?n ?h); (case n => first | exact R.nio rfl rfl | exact R.nio rfl (DL.NoOw.ok (by assumption))))
  | ((with_reducible refine' R.an_name ?n ?h); (case n => first | assumption | exact R.nio rfl rfl | exact R.nio rfl (DL.NoOw.ok (by assumption)))) | ((with_reducible refine' R.an_two ?n ?m ?h); (case n => first | assumption | exact R.nio rfl rfl | exact R.nio rfl (DL.NoOw.ok (by assumption))); (case m => first | assumption | exact R.nio rfl rfl | exact R.nio rfl (DL.NoOw.ok (by assumption)))) | ((with_reducible refine' R.an_three ?n ?m ?o ?h); (case n => first | assumption | exact R.nio rfl rfl | exact R.nio rfl (DL.NoOw.ok (by assumption))); (case m => first | assumption | exact R.nio rfl rfl | exact R.nio rfl (DL.NoOw.ok (by assumption))); (case o => first | assumption | exact R.nio rfl rfl | exact R.nio rfl (DL.NoOw.ok (by assumption)))) | (with_reducible refine R.tt rfl ?_) | (with_reducible refine R.tn ?_) | (with_reducible refine R.tc ?_) | (with_reducible refine R.subd ?_) | ((with_reducible refine' R.own_and ?g ?h); (case g => exact rfl)) | ((with_reducible refine' R.put_at ?g ?g' ?h); (case g => exact rfl); (case g' => exact rfl)) | ((with_reducible refine' R.io_ref ?g ?h); (case g => exact rfl)) | (with_reducible refine R.io_own ?_) | (with_reducible refine R.one_1 ?_) | (with_reducible refine R.setn ?_) | (with_reducible refine R.setd ?_) | (with_reducible refine R.seto ?_) | (with_reducible refine R.setr ?_)
  | ((with_reducible refine' R.find ?g ?h); (case g => exact rfl)) | ((with_reducible refine' R.fino ?g ?h); (case g => exact rfl)) | ((with_reducible refine' R.finr ?g ?g' ?h); (case g => exact rfl); (case g' => exact rfl)) | ((with_reducible refine' R.find' ?g ?g' ?h); (case g => exact rfl); (case g' => exact rfl))
  | (with_reducible refine R.ifT ?_) | (with_reducible refine R.ifF ?_)
  | ((with_reducible refine' R.pow_i ?g ?h); (case g => decide)) | ((with_reducible refine' R.mul_i ?g ?h); (case g => exact mulOk 60 60 (by omega) (by omega) (by decide))) | ((with_reducible refine' R.fdiv_i ?g ?h); (case g => exact divOk (by omega) (by omega))) | ((with_reducible refine' R.mod_i ?g ?h); (case g => omega))
  | (with_reducible refine R.add_i ?_) | (with_reducible refine R.sub_i ?_) | (with_reducible refine R.lt_i ?_) | (with_reducible refine R.le_i ?_) | (with_reducible refine R.gt_i ?_) | (with_reducible refine R.ge_i ?_)
  | ((with_reducible refine' R.idx_l ?g ?h); (case g => exact rfl)) | ((with_reducible refine' R.idx_t ?g ?h); (case g => exact rfl)) | (with_reducible refine R.slc_l ?_) | (with_reducible refine R.slc_t ?_)
  | (with_reducible refine R.len_l ?_) | (with_reducible refine R.len_t ?_) | (with_reducible refine R.tuple_l ?_) | (with_reducible refine R.tuple_t ?_) | (with_reducible refine R.list_l ?_) | (with_reducible refine R.list_t ?_) | (with_reducible refine R.abs_i ?_) | (with_reducible refine R.int_i ?_) | (with_reducible refine R.gcd_i ?_)
  | (with_reducible refine R.isint ?_) | (with_reducible refine R.isbool ?_) | (with_reducible refine R.istuple ?_) | (with_reducible refine R.islist ?_)
  | (with_reducible refine R.sum_is ?_) | (with_reducible refine R.all_bs ?_) | ((with_reducible refine R.any_bs ?_))); (try dsimp only [List.map, List.set, Int.reduceToNat, Bool.not_true, Bool.not_false, DL.restR, DL.gt, DL.wipeR]))
theorem all_l {α : Type} {l : List α} {f : α → Bool} {k : KR} (h : k (.dat (.bool (l.all f)))) : biD .all [.list (l.map fun x => .bool (f x))] k := by
  have : l.map (fun x => PyData.bool (f x)) = (l.map f).map .bool := by simp
  rw [this]
  refine R.all_bs ?_
  simpa [List.all_map] using h
theorem fr_inj {a b : Rat} : fr a = fr b ↔ a = b := by
  constructor
  · intro h
    simp only [fr, PyData.tuple.injEq, List.cons.injEq, PyData.int.injEq, and_true] at h
    exact Rat.ext h.1 (by exact_mod_cast h.2)
  · rintro rfl; rfl
theorem fr_shp (a : Rat) : shp (fr a) := by unfold shp SeqAt.shaped fr; simp [PyData.canLay0, PyData.canLayAll0, PyData.depth, PyData.depthAll]
theorem eq_fr {a b : Rat} {kb : Bool → Prop} (h : kb (decide (a = b))) : cmpD .eq (fr a) (fr b) kb := R.eq_tame (c := decide (a = b)) (fr_shp a) (fr_shp b) rfl rfl (by rw [fr_inj, decide_eq_true_iff]) h
/-! ### sheets -/
structure Sheet (s n : Nat) (S : Nat → Nat → Rat) : Prop where
  one : 0 < n
  most : n ≤ 5
  sub : Mx.Sub n S
  sz : ∀ i j, i < n → j < n → Sz s (S i j)
  bits : s ≤ 300
theorem Sheet.le1 {s n : Nat} {S : Nat → Nat → Rat} (h : Sheet s n S) {i j : Nat} (hi : i < n) (hj : j < n) : S i j ≤ 1 := by
  have := Mx.sm_le_each (n := n) (f := S i) (fun j hj => h.sub.nn i j hi hj) j hj
  exact Rat.le_trans this (h.sub.row i hi)
theorem le1_num {q : Rat} (h : q ≤ 1) : q.num ≤ (q.den : Int) := by
  have := (Rat.le_iff q 1).mp h
  simpa using this
theorem w_is_between {P : List FDef} [Nd P] [Has P d_is_between] [Has P d_is_whole] {k : Nat} {a b c : Int} {Q E} (h : Q (.dat (.bool (decide (b ≤ a ∧ a ≤ c)))) []) : gam P (k + 2) "is_between" [.dat (.int a), .dat (.int b), .dat (.int c)] Q E := by
  refine R.opn Nd.nd (Has.mem (d := d_is_between)) rfl ?_
  simp only [d_is_between, List.map, List.replicate, List.length_cons, List.length_nil, List.cons_append, List.nil_append, Nat.reduceAdd, Nat.reduceSub]
  (repeat walk_at "w1")
  refine w_is_whole ?_
  (repeat walk_at "w1")
  refine R.ifT ?_
  (repeat walk_at "w1")
  refine R.iteD (fun g => ?_) fun g => ?_
  · (repeat walk_at "w1")
    have : decide (b ≤ a ∧ a ≤ c) = decide (a ≤ c) := by simp [g]
    rw [this] at h; exact h
  · (repeat walk_at "w1")
    have : decide (b ≤ a ∧ a ≤ c) = false := by simp [g]
    rw [this] at h; exact h
/-- a share above 0 -/
def ed (S : Nat → Nat → Rat) (i j : Nat) : Bool := !decide (S i j = 0)
end Lib
namespace Lib
open PySem DL L2
local macro_rules | `(tactic| walk_at "w1") => `(tactic| (first
  | (with_reducible refine R.lit ?_) | (with_reducible refine R.con ?_)
  | ((with_reducible refine' R.var ?g ?h); (case g => exact rfl))
  | ((with_reducible refine' R.varO ?g ?h); (case g => exact rfl))
  | (with_reducible refine R.op2 ?_) | (with_reducible refine R.cmp ?_) | (with_reducible refine R.idx ?_) | (with_reducible refine R.slc ?_) | (with_reducible refine R.oN ?_) | (with_reducible refine R.oS ?_)
  | (with_reducible refine R.tcmp ?_) | (with_reducible refine R.tnot ?_) | (with_reducible refine R.tand ?_) | (with_reducible refine R.tor ?_) | (with_reducible refine R.tcall ?_) | (with_reducible refine R.tbi ?_) | (with_reducible refine R.tisN ?_) | (with_reducible refine R.tnotN ?_) | (with_reducible refine R.tchain ?_) | (with_reducible refine R.tvar ?_) | (with_reducible refine R.tcallK ?_)
  | (with_reducible refine R.isN ?_) | (with_reducible refine R.notN ?_) | (with_reducible refine R.chain ?_) | (with_reducible refine R.neg ?_) | (with_reducible refine R.not ?_) | (with_reducible refine R.and ?_) | (with_reducible refine R.or ?_) | (with_reducible refine R.ife ?_)
  | (with_reducible refine R.tup ?_) | (with_reducible refine R.lst ?_) | (with_reducible refine R.call ?_) | (with_reducible refine R.callK ?_) | (with_reducible refine R.callIo ?_) | (with_reducible refine R.bi ?_) | (with_reducible refine R.comp ?_) | (with_reducible refine R.index ?_) | (with_reducible refine R.repL ?_) | (with_reducible refine R.listR ?_)
  | (with_reducible refine R.an ?_) | (with_reducible refine R.ac ?_) | (with_reducible refine R.en ?_) | (with_reducible refine R.ec ?_) | (with_reducible refine R.ed ?_) | (with_reducible refine R.eo ?_)
  | ((with_reducible refine' R.erd ?g ?h); (case g => exact rfl)) | ((with_reducible refine' R.ero ?g ?h); (case g => exact rfl))
  | ((with_reducible refine' R.w1 ?g ?h); (case g => exact rfl)) | ((with_reducible refine' R.w2 ?g ?g' ?h); (case g => exact rfl); (case g' => exact rfl)) | ((with_reducible refine' R.ws ?g ?h); (case g => exact rfl))
  | (with_reducible refine R.fval rfl ?_) | (with_reducible refine R.f_l ?_) | (with_reducible refine R.f_t ?_) | (with_reducible refine R.ival rfl ?_) | (with_reducible refine R.i_l ?_) | (with_reducible refine R.i_t ?_) | (with_reducible refine R.i_o ?_) | ((with_reducible refine' R.i_r ?g ?h); (case g => exact rfl))
  | (with_reducible refine R.irange ?_) | (with_reducible refine R.frange ?_) | (with_reducible refine R.ienum ?_) | (with_reducible refine R.fenum ?_) | (with_reducible refine R.izip ?_) | (with_reducible refine R.fzip ?_) | (with_reducible refine R.irev ?_) | (with_reducible refine R.frev ?_) | ((with_reducible refine' R.zip_at ?g ?g' ?h); (case g => exact rfl); (case g' => exact rfl)) | (with_reducible refine R.eq_i ?_) | (with_reducible refine R.ne_i ?_) | (with_reducible refine R.sretN ?_)
  | (with_reducible refine R.sn ?_) | (with_reducible refine R.sc ?_) | (with_reducible refine R.sasg ?_) | (with_reducible refine R.spar ?_) | (with_reducible refine R.sexpr ?_) | (with_reducible refine R.sapp ?_) | (with_reducible refine R.sext ?_) | (with_reducible refine R.sret ?_) | (with_reducible refine R.site ?_) | (with_reducible refine R.sfor ?_)
  | ((with_reducible refine R.nd_ ?n ?h); (case n => first | exact R.nio rfl rfl | exact R.nio rfl (DL.NoOw.ok (by assumption)))) | ((with_reducible refine R.no_ ?n ?h); (case n => first | exact R.nio rfl rfl | exact R.nio rfl (DL.NoOw.ok (by assumption)))) | ((with_reducible refine R.nr_ ?n ?h); (case n => first | exact R.nio rfl rfl | exact R.nio rfl (DL.NoOw.ok (by assumption))))
  | ((with_reducible refine' R.an_name ?n ?h); (case n => first | assumption | exact R.nio rfl rfl | exact R.nio rfl (DL.NoOw.ok (by assumption)))) | ((with_reducible refine' R.an_two ?n ?m ?h); (case n => first | assumption | exact R.nio rfl rfl | exact R.nio rfl (DL.NoOw.ok (by assumption))); (case m => first | assumption | exact R.nio rfl rfl | exact R.nio rfl (DL.NoOw.ok (by assumption)))) | ((with_reducible refine' R.an_three ?n ?m ?o ?h); (case n => first | assumption | exact R.nio rfl rfl | exact R.nio rfl (DL.NoOw.ok (by assumption))); (case m => first | assumption | exact R.nio rfl rfl | exact R.nio rfl (DL.NoOw.ok (by assumption))); (case o => first | assumption | exact R.nio rfl rfl | exact R.nio rfl (DL.NoOw.ok (by assumption)))) | (with_reducible refine R.tt rfl ?_) | (with_reducible refine R.tn ?_) | (with_reducible refine R.tc ?_) | (with_reducible refine R.subd ?_) | ((with_reducible refine' R.own_and ?g ?h); (case g => exact rfl)) | ((with_reducible refine' R.put_at ?g ?g' ?h); (case g => exact rfl); (case g' => exact rfl)) | ((with_reducible refine' R.io_ref ?g ?h); (case g => exact rfl)) | (with_reducible refine R.io_own ?_) | (with_reducible refine R.one_1 ?_) | (with_reducible refine R.setn ?_) | (with_reducible refine R.setd ?_) | (with_reducible refine R.seto ?_) | (with_reducible refine R.setr ?_)
  | ((with_reducible refine' R.find ?g ?h); (case g => exact rfl)) | ((with_reducible refine' R.fino ?g ?h); (case g => exact rfl)) | ((with_reducible refine' R.finr ?g ?g' ?h); (case g => exact rfl); (case g' => exact rfl)) | ((with_reducible refine' R.find' ?g ?g' ?h); (case g => exact rfl); (case g' => exact rfl))
  | (with_reducible refine R.ifT ?_) | (with_reducible refine R.ifF ?_)
  | ((with_reducible refine' R.pow_i ?g ?h); (case g => decide)) | ((with_reducible refine' R.mul_i ?g ?h); (case g => exact mulOk 60 60 (by omega) (by omega) (by decide))) | ((with_reducible refine' R.fdiv_i ?g ?h); (case g => exact divOk (by omega) (by omega))) | ((with_reducible refine' R.mod_i ?g ?h); (case g => omega))
  | (with_reducible refine R.add_i ?_) | (with_reducible refine R.sub_i ?_) | (with_reducible refine R.lt_i ?_) | (with_reducible refine R.le_i ?_) | (with_reducible refine R.gt_i ?_) | (with_reducible refine R.ge_i ?_)
  | ((with_reducible refine' R.idx_l ?g ?h); (case g => exact rfl)) | ((with_reducible refine' R.idx_t ?g ?h); (case g => exact rfl)) | (with_reducible refine R.slc_l ?_) | (with_reducible refine R.slc_t ?_)
  | (with_reducible refine R.len_l ?_) | (with_reducible refine R.len_t ?_) | (with_reducible refine R.tuple_l ?_) | (with_reducible refine R.tuple_t ?_) | (with_reducible refine R.list_l ?_) | (with_reducible refine R.list_t ?_) | (with_reducible refine R.abs_i ?_) | (with_reducible refine R.int_i ?_) | (with_reducible refine R.gcd_i ?_)
  | (with_reducible refine R.isint ?_) | (with_reducible refine R.isbool ?_) | (with_reducible refine R.istuple ?_) | (with_reducible refine R.islist ?_)
  | (with_reducible refine R.sum_is ?_) | (with_reducible refine R.all_bs ?_) | ((with_reducible refine R.any_bs ?_))); (try dsimp only [List.map, List.set, Int.reduceToNat, Bool.not_true, Bool.not_false, DL.restR, DL.gt, DL.wipeR]))
/-- rows of whole numbers over their sums and losses -/
structure Row (n : Nat) (f : Nat → Rat) (N : Nat → Int) (u : Nat) : Prop where
  u1 : 1 ≤ u
  u2 : u ≤ 420
  n0 : ∀ j, j < n → 0 ≤ N j
  n3 : ∀ j, j < n → N j ≤ 3
  eq : ∀ j, j < n → f j = mkRat (N j) u
  sum : Mx.sm n (fun j => (N j : Rat)) ≤ (u : Rat)
theorem int_cases {x : D} {l : List Int} (h : x ∈ l.map PyData.int) : ∃ v, v ∈ l ∧ x = .int v := by
  obtain ⟨v, a, b⟩ := List.mem_map.mp h
  exact ⟨v, a, b.symm⟩
/-- a drawn sheet -/
structure Net (n : Nat) (S : Nat → Nat → Rat) : Prop where
  one : 0 < n
  most : n ≤ 5
  row : ∀ i, i < n → ∃ N u, Row n (S i) N u
theorem inv_nn {a : Rat} (h : 0 ≤ a) : 0 ≤ a⁻¹ := by
  by_cases z : a = 0
  · subst z; rw [Rat.inv_zero]; exact Rat.le_refl
  · exact Rat.le_of_lt (Rat.inv_pos.mpr (by grind))
theorem mkRat_nonneg' {a : Int} {u : Nat} (h : 0 ≤ a) : 0 ≤ mkRat a u := by
  rw [Rat.mkRat_eq_div]
  rw [Rat.div_def]
  exact Rat.mul_nonneg (by exact_mod_cast h) (inv_nn (by exact_mod_cast Nat.zero_le u))
theorem Row.sum_le {n u : Nat} {f : Nat → Rat} {N : Nat → Int} (r : Row n f N u) : Mx.sm n f ≤ 1 := by
  have u1 := r.u1
  have u0 : (0 : Rat) < (u : Rat) := by exact_mod_cast u1
  have e : Mx.sm n f = Mx.sm n (fun j => (N j : Rat)) * (u : Rat)⁻¹ := by
    rw [← Mx.sm_mulR]
    exact Mx.sm_congr fun j hj => by rw [r.eq j hj, Rat.mkRat_eq_div, Rat.div_def]
  rw [e]
  have := Rat.mul_le_mul_of_nonneg_right r.sum (inv_nn (Rat.le_of_lt u0))
  rw [Rat.mul_inv_cancel _ (Rat.ne_of_gt u0)] at this
  exact this
theorem Net.sheet {n : Nat} {S : Nat → Nat → Rat} (h : Net n S) : Sheet 9 n S := by
  refine ⟨h.one, h.most, ⟨fun i j hi hj => ?_, fun i hi => ?_⟩, fun i j hi hj => ?_, by omega⟩
  · obtain ⟨N, u, r⟩ := h.row i hi
    rw [r.eq j hj]; exact mkRat_nonneg' (r.n0 j hj)
  · obtain ⟨N, u, r⟩ := h.row i hi
    exact r.sum_le
  · obtain ⟨N, u, r⟩ := h.row i hi
    rw [r.eq j hj]
    have := r.u1
    have := r.u2
    have := r.n0 j hj
    have := r.n3 j hj
    exact sz_mk _ _ _ (by omega) (by omega) (by omega)
end Lib
namespace Lib
open PySem DL L2
local macro_rules | `(tactic| walk_at "w1") => `(tactic| (first
  | (with_reducible refine R.lit ?_) | (with_reducible refine R.con ?_)
  | ((with_reducible refine' R.var ?g ?h); (case g => exact rfl))
  | ((with_reducible refine' R.varO ?g ?h); (case g => exact rfl))
  | (with_reducible refine R.op2 ?_) | (with_reducible refine R.cmp ?_) | (with_reducible refine R.idx ?_) | (with_reducible refine R.slc ?_) | (with_reducible refine R.oN ?_) | (with_reducible refine R.oS ?_)
  | (with_reducible refine R.tcmp ?_) | (with_reducible refine R.tnot ?_) | (with_reducible refine R.tand ?_) | (with_reducible refine R.tor ?_) | (with_reducible refine R.tcall ?_) | (with_reducible refine R.tbi ?_) | (with_reducible refine R.tisN ?_) | (with_reducible refine R.tnotN ?_) | (with_reducible refine R.tchain ?_) | (with_reducible refine R.tvar ?_) | (with_reducible refine R.tcallK ?_)
  | (with_reducible refine R.isN ?_) | (with_reducible refine R.notN ?_) | (with_reducible refine R.chain ?_) | (with_reducible refine R.neg ?_) | (with_reducible refine R.not ?_) | (with_reducible refine R.and ?_) | (with_reducible refine R.or ?_) | (with_reducible refine R.ife ?_)
  | (with_reducible refine R.tup ?_) | (with_reducible refine R.lst ?_) | (with_reducible refine R.call ?_) | (with_reducible refine R.callK ?_) | (with_reducible refine R.callIo ?_) | (with_reducible refine R.bi ?_) | (with_reducible refine R.comp ?_) | (with_reducible refine R.index ?_) | (with_reducible refine R.repL ?_) | (with_reducible refine R.listR ?_)
  | (with_reducible refine R.an ?_) | (with_reducible refine R.ac ?_) | (with_reducible refine R.en ?_) | (with_reducible refine R.ec ?_) | (with_reducible refine R.ed ?_) | (with_reducible refine R.eo ?_)
  | ((with_reducible refine' R.erd ?g ?h); (case g => exact rfl)) | ((with_reducible refine' R.ero ?g ?h); (case g => exact rfl))
  | ((with_reducible refine' R.w1 ?g ?h); (case g => exact rfl)) | ((with_reducible refine' R.w2 ?g ?g' ?h); (case g => exact rfl); (case g' => exact rfl)) | ((with_reducible refine' R.ws ?g ?h); (case g => exact rfl))
  | (with_reducible refine R.fval rfl ?_) | (with_reducible refine R.f_l ?_) | (with_reducible refine R.f_t ?_) | (with_reducible refine R.ival rfl ?_) | (with_reducible refine R.i_l ?_) | (with_reducible refine R.i_t ?_) | (with_reducible refine R.i_o ?_) | ((with_reducible refine' R.i_r ?g ?h); (case g => exact rfl))
  | (with_reducible refine R.irange ?_) | (with_reducible refine R.frange ?_) | (with_reducible refine R.ienum ?_) | (with_reducible refine R.fenum ?_) | (with_reducible refine R.izip ?_) | (with_reducible refine R.fzip ?_) | (with_reducible refine R.irev ?_) | (with_reducible refine R.frev ?_) | ((with_reducible refine' R.zip_at ?g ?g' ?h); (case g => exact rfl); (case g' => exact rfl)) | (with_reducible refine R.eq_i ?_) | (with_reducible refine R.ne_i ?_) | (with_reducible refine R.sretN ?_)
  | (with_reducible refine R.sn ?_) | (with_reducible refine R.sc ?_) | (with_reducible refine R.sasg ?_) | (with_reducible refine R.spar ?_) | (with_reducible refine R.sexpr ?_) | (with_reducible refine R.sapp ?_) | (with_reducible refine R.sext ?_) | (with_reducible refine R.sret ?_) | (with_reducible refine R.site ?_) | (with_reducible refine R.sfor ?_)
  | ((with_reducible refine R.nd_ ?n ?h); (case n => first | exact R.nio rfl rfl | exact R.nio rfl (DL.NoOw.ok (by assumption)))) | ((with_reducible refine R.no_ ?n ?h); (case n => first | exact R.nio rfl rfl | exact R.nio rfl (DL.NoOw.ok (by assumption)))) | ((with_reducible refine R.nr_ ?n ?h); (case n => first | exact R.nio rfl rfl | exact R.nio rfl (DL.NoOw.ok (by assumption))))
  | ((with_reducible refine' R.an_name ?n ?h); (case n => first | assumption | exact R.nio rfl rfl | exact R.nio rfl (DL.NoOw.ok (by assumption)))) | ((with_reducible refine' R.an_two ?n ?m ?h); (case n => first | assumption | exact R.nio rfl rfl | exact R.nio rfl (DL.NoOw.ok (by assumption))); (case m => first | assumption | exact R.nio rfl rfl | exact R.nio rfl (DL.NoOw.ok (by assumption)))) | ((with_reducible refine' R.an_three ?n ?m ?o ?h); (case n => first | assumption | exact R.nio rfl rfl | exact R.nio rfl (DL.NoOw.ok (by assumption))); (case m => first | assumption | exact R.nio rfl rfl | exact R.nio rfl (DL.NoOw.ok (by assumption))); (case o => first | assumption | exact R.nio rfl rfl | exact R.nio rfl (DL.NoOw.ok (by assumption)))) | (with_reducible refine R.tt rfl ?_) | (with_reducible refine R.tn ?_) | (with_reducible refine R.tc ?_) | (with_reducible refine R.subd ?_) | ((with_reducible refine' R.own_and ?g ?h); (case g => exact rfl)) | ((with_reducible refine' R.put_at ?g ?g' ?h); (case g => exact rfl); (case g' => exact rfl)) | ((with_reducible refine' R.io_ref ?g ?h); (case g => exact rfl)) | (with_reducible refine R.io_own ?_) | (with_reducible refine R.one_1 ?_) | (with_reducible refine R.setn ?_) | (with_reducible refine R.setd ?_) | (with_reducible refine R.seto ?_) | (with_reducible refine R.setr ?_)
  | ((with_reducible refine' R.find ?g ?h); (case g => exact rfl)) | ((with_reducible refine' R.fino ?g ?h); (case g => exact rfl)) | ((with_reducible refine' R.finr ?g ?g' ?h); (case g => exact rfl); (case g' => exact rfl)) | ((with_reducible refine' R.find' ?g ?g' ?h); (case g => exact rfl); (case g' => exact rfl))
  | (with_reducible refine R.ifT ?_) | (with_reducible refine R.ifF ?_)
  | ((with_reducible refine' R.pow_i ?g ?h); (case g => decide)) | ((with_reducible refine' R.mul_i ?g ?h); (case g => exact mulOk 60 60 (by omega) (by omega) (by decide))) | ((with_reducible refine' R.fdiv_i ?g ?h); (case g => exact divOk (by omega) (by omega))) | ((with_reducible refine' R.mod_i ?g ?h); (case g => omega))
  | (with_reducible refine R.add_i ?_) | (with_reducible refine R.sub_i ?_) | (with_reducible refine R.lt_i ?_) | (with_reducible refine R.le_i ?_) | (with_reducible refine R.gt_i ?_) | (with_reducible refine R.ge_i ?_)
  | ((with_reducible refine' R.idx_l ?g ?h); (case g => exact rfl)) | ((with_reducible refine' R.idx_t ?g ?h); (case g => exact rfl)) | (with_reducible refine R.slc_l ?_) | (with_reducible refine R.slc_t ?_)
  | (with_reducible refine R.len_l ?_) | (with_reducible refine R.len_t ?_) | (with_reducible refine R.tuple_l ?_) | (with_reducible refine R.tuple_t ?_) | (with_reducible refine R.list_l ?_) | (with_reducible refine R.list_t ?_) | (with_reducible refine R.abs_i ?_) | (with_reducible refine R.int_i ?_) | (with_reducible refine R.gcd_i ?_)
  | (with_reducible refine R.isint ?_) | (with_reducible refine R.isbool ?_) | (with_reducible refine R.istuple ?_) | (with_reducible refine R.islist ?_)
  | (with_reducible refine R.sum_is ?_) | (with_reducible refine R.all_bs ?_) | ((with_reducible refine R.any_bs ?_))); (try dsimp only [List.map, List.set, Int.reduceToNat, Bool.not_true, Bool.not_false, DL.restR, DL.gt, DL.wipeR]))
end Lib
namespace Lib
open PySem DL L2
local macro_rules | `(tactic| walk_at "w1") => `(tactic| (first
  | (with_reducible refine R.lit ?_) | (with_reducible refine R.con ?_)
  | ((with_reducible refine' R.var ?g ?h); (case g => exact rfl))
  | ((with_reducible refine' R.varO ?g ?h); (case g => exact rfl))
  | (with_reducible refine R.op2 ?_) | (with_reducible refine R.cmp ?_) | (with_reducible refine R.idx ?_) | (with_reducible refine R.slc ?_) | (with_reducible refine R.oN ?_) | (with_reducible refine R.oS ?_)
  | (with_reducible refine R.tcmp ?_) | (with_reducible refine R.tnot ?_) | (with_reducible refine R.tand ?_) | (with_reducible refine R.tor ?_) | (with_reducible refine R.tcall ?_) | (with_reducible refine R.tbi ?_) | (with_reducible refine R.tisN ?_) | (with_reducible refine R.tnotN ?_) | (with_reducible refine R.tchain ?_) | (with_reducible refine R.tvar ?_) | (with_reducible refine R.tcallK ?_)
  | (with_reducible refine R.isN ?_) | (with_reducible refine R.notN ?_) | (with_reducible refine R.chain ?_) | (with_reducible refine R.neg ?_) | (with_reducible refine R.not ?_) | (with_reducible refine R.and ?_) | (with_reducible refine R.or ?_) | (with_reducible refine R.ife ?_)
  | (with_reducible refine R.tup ?_) | (with_reducible refine R.lst ?_) | (with_reducible refine R.call ?_) | (with_reducible refine R.callK ?_) | (with_reducible refine R.callIo ?_) | (with_reducible refine R.bi ?_) | (with_reducible refine R.comp ?_) | (with_reducible refine R.index ?_) | (with_reducible refine R.repL ?_) | (with_reducible refine R.listR ?_)
  | (with_reducible refine R.an ?_) | (with_reducible refine R.ac ?_) | (with_reducible refine R.en ?_) | (with_reducible refine R.ec ?_) | (with_reducible refine R.ed ?_) | (with_reducible refine R.eo ?_)
  | ((with_reducible refine' R.erd ?g ?h); (case g => exact rfl)) | ((with_reducible refine' R.ero ?g ?h); (case g => exact rfl))
  | ((with_reducible refine' R.w1 ?g ?h); (case g => exact rfl)) | ((with_reducible refine' R.w2 ?g ?g' ?h); (case g => exact rfl); (case g' => exact rfl)) | ((with_reducible refine' R.ws ?g ?h); (case g => exact rfl))
  | (with_reducible refine R.fval rfl ?_) | (with_reducible refine R.f_l ?_) | (with_reducible refine R.f_t ?_) | (with_reducible refine R.ival rfl ?_) | (with_reducible refine R.i_l ?_) | (with_reducible refine R.i_t ?_) | (with_reducible refine R.i_o ?_) | ((with_reducible refine' R.i_r ?g ?h); (case g => exact rfl))
  | (with_reducible refine R.irange ?_) | (with_reducible refine R.frange ?_) | (with_reducible refine R.ienum ?_) | (with_reducible refine R.fenum ?_) | (with_reducible refine R.izip ?_) | (with_reducible refine R.fzip ?_) | (with_reducible refine R.irev ?_) | (with_reducible refine R.frev ?_) | ((with_reducible refine' R.zip_at ?g ?g' ?h); (case g => exact rfl); (case g' => exact rfl)) | (with_reducible refine R.eq_i ?_) | (with_reducible refine R.ne_i ?_) | (with_reducible refine R.sretN ?_)
  | (with_reducible refine R.sn ?_) | (with_reducible refine R.sc ?_) | (with_reducible refine R.sasg ?_) | (with_reducible refine R.spar ?_) | (with_reducible refine R.sexpr ?_) | (with_reducible refine R.sapp ?_) | (with_reducible refine R.sext ?_) | (with_reducible refine R.sret ?_) | (with_reducible refine R.site ?_) | (with_reducible refine R.sfor ?_)
  | ((with_reducible refine R.nd_ ?n ?h); (case n => first | exact R.nio rfl rfl | exact R.nio rfl (DL.NoOw.ok (by assumption)))) | ((with_reducible refine R.no_ ?n ?h); (case n => first | exact R.nio rfl rfl | exact R.nio rfl (DL.NoOw.ok (by assumption)))) | ((with_reducible refine R.nr_ ?n ?h); (case n => first | exact R.nio rfl rfl | exact R.nio rfl (DL.NoOw.ok (by assumption))))
  | ((with_reducible refine' R.an_name ?n ?h); (case n => first | assumption | exact R.nio rfl rfl | exact R.nio rfl (DL.NoOw.ok (by assumption)))) | ((with_reducible refine' R.an_two ?n ?m ?h); (case n => first | assumption | exact R.nio rfl rfl | exact R.nio rfl (DL.NoOw.ok (by assumption))); (case m => first | assumption | exact R.nio rfl rfl | exact R.nio rfl (DL.NoOw.ok (by assumption)))) | ((with_reducible refine' R.an_three ?n ?m ?o ?h); (case n => first | assumption | exact R.nio rfl rfl | exact R.nio rfl (DL.NoOw.ok (by assumption))); (case m => first | assumption | exact R.nio rfl rfl | exact R.nio rfl (DL.NoOw.ok (by assumption))); (case o => first | assumption | exact R.nio rfl rfl | exact R.nio rfl (DL.NoOw.ok (by assumption)))) | (with_reducible refine R.tt rfl ?_) | (with_reducible refine R.tn ?_) | (with_reducible refine R.tc ?_) | (with_reducible refine R.subd ?_) | ((with_reducible refine' R.own_and ?g ?h); (case g => exact rfl)) | ((with_reducible refine' R.put_at ?g ?g' ?h); (case g => exact rfl); (case g' => exact rfl)) | ((with_reducible refine' R.io_ref ?g ?h); (case g => exact rfl)) | (with_reducible refine R.io_own ?_) | (with_reducible refine R.one_1 ?_) | (with_reducible refine R.setn ?_) | (with_reducible refine R.setd ?_) | (with_reducible refine R.seto ?_) | (with_reducible refine R.setr ?_)
  | ((with_reducible refine' R.find ?g ?h); (case g => exact rfl)) | ((with_reducible refine' R.fino ?g ?h); (case g => exact rfl)) | ((with_reducible refine' R.finr ?g ?g' ?h); (case g => exact rfl); (case g' => exact rfl)) | ((with_reducible refine' R.find' ?g ?g' ?h); (case g => exact rfl); (case g' => exact rfl))
  | (with_reducible refine R.ifT ?_) | (with_reducible refine R.ifF ?_)
  | ((with_reducible refine' R.pow_i ?g ?h); (case g => decide)) | ((with_reducible refine' R.mul_i ?g ?h); (case g => exact mulOk 60 60 (by omega) (by omega) (by decide))) | ((with_reducible refine' R.fdiv_i ?g ?h); (case g => exact divOk (by omega) (by omega))) | ((with_reducible refine' R.mod_i ?g ?h); (case g => omega))
  | (with_reducible refine R.add_i ?_) | (with_reducible refine R.sub_i ?_) | (with_reducible refine R.lt_i ?_) | (with_reducible refine R.le_i ?_) | (with_reducible refine R.gt_i ?_) | (with_reducible refine R.ge_i ?_)
  | ((with_reducible refine' R.idx_l ?g ?h); (case g => exact rfl)) | ((with_reducible refine' R.idx_t ?g ?h); (case g => exact rfl)) | (with_reducible refine R.slc_l ?_) | (with_reducible refine R.slc_t ?_)
  | (with_reducible refine R.len_l ?_) | (with_reducible refine R.len_t ?_) | (with_reducible refine R.tuple_l ?_) | (with_reducible refine R.tuple_t ?_) | (with_reducible refine R.list_l ?_) | (with_reducible refine R.list_t ?_) | (with_reducible refine R.abs_i ?_) | (with_reducible refine R.int_i ?_) | (with_reducible refine R.gcd_i ?_)
  | (with_reducible refine R.isint ?_) | (with_reducible refine R.isbool ?_) | (with_reducible refine R.istuple ?_) | (with_reducible refine R.islist ?_)
  | (with_reducible refine R.sum_is ?_) | (with_reducible refine R.all_bs ?_) | ((with_reducible refine R.any_bs ?_))); (try dsimp only [List.map, List.set, Int.reduceToNat, Bool.not_true, Bool.not_false, DL.restR, DL.gt, DL.wipeR]))
theorem sh_fr {q : Rat} {s : Nat} (h : Sz s q) (hs : s ≤ 1920) : Sh 1 3852 (fr q) := by
  have h2 := h.mono hs
  have := sh_tup (e := 0) (L := 1922) (xs := [.int q.num, .int (q.den : Int)]) fun x hx => by
    simp only [List.mem_cons, List.not_mem_nil, or_false] at hx
    rcases hx with rfl | rfl
    · exact sh_int h2.1
    · exact sh_int (by simpa using h2.2)
  exact this
def d_lawN (n : Int) : FDef := ⟨"law", ["script"], ["script", "turn"], [.ret (.bi .all [.comp (.callIo "_law_right" (.call "_law_tap" [.var 0, .var 1]) []) (.name 1) (.range [.lit (.int n)]) none [1]])]⟩
theorem law_ok {P : List FDef} [Nd P] [Has P d__law_tap] {N : Nat} [Has P (d_lawN N)] (hN : N ≤ 10) {k : Nat} (hr : ∀ (xs : List D) (Q : Rs → List (List D) → Prop) (E : Xn → Prop), Tap 0 xs → (∀ ys, Q (.dat (.bool true)) [ys]) → gam P (k + 1) "_law_right" [.own true xs] Q E) : IsScript (gam P (k + 2) "law") 63 := by
  intro ns hl
  refine R.opn Nd.nd (Has.mem (d := d_lawN N)) rfl ?_
  simp only [d_lawN, List.map, List.replicate, List.length_cons, List.length_nil, List.cons_append, List.nil_append, Nat.reduceAdd, Nat.reduceSub]
  (repeat walk_at "w1")
  refine R.rng1 (by omega) (by unfold LenOk; rw [sizeLine_eq]; omega) ?_
  refine ⟨noOwn1 rfl, ?_⟩
  simp only [wpo, wipeR]
  refine comp_l (α := Nat) (fun i => .int (i : Int)) (fun i => .bool true) rfl (fun _ => rfl) trivial _ [] (fun j hj nx hn => ?_) ?_
  · have hj' := List.mem_range.mp hj
    (repeat walk_at "w1")
    refine w_tap hl (by omega) (by omega) fun a b h1 h2 h3 => ?_
    (repeat walk_at "w1")
    refine hr _ _ _ ⟨a, b, 0, rfl, h1, h2, h3, by omega, by omega⟩ fun ys => ?_
    (repeat walk_at "w1")
    exact hn
  · (repeat walk_at "w1")
    refine all_l (f := fun _ => true) ?_
    have : (List.range (N : Int).toNat).all (fun _ => true) = true := by simp
    rw [this]
    (repeat walk_at "w1")
end Lib
namespace Lib
open PySem DL L2
local macro_rules | `(tactic| walk_at "w1") => `(tactic| (first
  | (with_reducible refine R.lit ?_) | (with_reducible refine R.con ?_)
  | ((with_reducible refine' R.var ?g ?h); (case g => exact rfl))
  | ((with_reducible refine' R.varO ?g ?h); (case g => exact rfl))
  | (with_reducible refine R.op2 ?_) | (with_reducible refine R.cmp ?_) | (with_reducible refine R.idx ?_) | (with_reducible refine R.slc ?_) | (with_reducible refine R.oN ?_) | (with_reducible refine R.oS ?_)
  | (with_reducible refine R.tcmp ?_) | (with_reducible refine R.tnot ?_) | (with_reducible refine R.tand ?_) | (with_reducible refine R.tor ?_) | (with_reducible refine R.tcall ?_) | (with_reducible refine R.tbi ?_) | (with_reducible refine R.tisN ?_) | (with_reducible refine R.tnotN ?_) | (with_reducible refine R.tchain ?_) | (with_reducible refine R.tvar ?_) | (with_reducible refine R.tcallK ?_)
  | (with_reducible refine R.isN ?_) | (with_reducible refine R.notN ?_) | (with_reducible refine R.chain ?_) | (with_reducible refine R.neg ?_) | (with_reducible refine R.not ?_) | (with_reducible refine R.and ?_) | (with_reducible refine R.or ?_) | (with_reducible refine R.ife ?_)
  | (with_reducible refine R.tup ?_) | (with_reducible refine R.lst ?_) | (with_reducible refine R.call ?_) | (with_reducible refine R.callK ?_) | (with_reducible refine R.callIo ?_) | (with_reducible refine R.bi ?_) | (with_reducible refine R.comp ?_) | (with_reducible refine R.index ?_) | (with_reducible refine R.repL ?_) | (with_reducible refine R.listR ?_)
  | (with_reducible refine R.an ?_) | (with_reducible refine R.ac ?_) | (with_reducible refine R.en ?_) | (with_reducible refine R.ec ?_) | (with_reducible refine R.ed ?_) | (with_reducible refine R.eo ?_)
  | ((with_reducible refine' R.erd ?g ?h); (case g => exact rfl)) | ((with_reducible refine' R.ero ?g ?h); (case g => exact rfl))
  | ((with_reducible refine' R.w1 ?g ?h); (case g => exact rfl)) | ((with_reducible refine' R.w2 ?g ?g' ?h); (case g => exact rfl); (case g' => exact rfl)) | ((with_reducible refine' R.ws ?g ?h); (case g => exact rfl))
  | (with_reducible refine R.fval rfl ?_) | (with_reducible refine R.f_l ?_) | (with_reducible refine R.f_t ?_) | (with_reducible refine R.ival rfl ?_) | (with_reducible refine R.i_l ?_) | (with_reducible refine R.i_t ?_) | (with_reducible refine R.i_o ?_) | ((with_reducible refine' R.i_r ?g ?h); (case g => exact rfl))
  | (with_reducible refine R.irange ?_) | (with_reducible refine R.frange ?_) | (with_reducible refine R.ienum ?_) | (with_reducible refine R.fenum ?_) | (with_reducible refine R.izip ?_) | (with_reducible refine R.fzip ?_) | (with_reducible refine R.irev ?_) | (with_reducible refine R.frev ?_) | ((with_reducible refine' R.zip_at ?g ?g' ?h); (case g => exact rfl); (case g' => exact rfl)) | (with_reducible refine R.eq_i ?_) | (with_reducible refine R.ne_i ?_) | (with_reducible refine R.sretN ?_)
  | (with_reducible refine R.sn ?_) | (with_reducible refine R.sc ?_) | (with_reducible refine R.sasg ?_) | (with_reducible refine R.spar ?_) | (with_reducible refine R.sexpr ?_) | (with_reducible refine R.sapp ?_) | (with_reducible refine R.sext ?_) | (with_reducible refine R.sret ?_) | (with_reducible refine R.site ?_) | (with_reducible refine R.sfor ?_)
  | ((with_reducible refine R.nd_ ?n ?h); (case n => first | exact R.nio rfl rfl | exact R.nio rfl (DL.NoOw.ok (by assumption)))) | ((with_reducible refine R.no_ ?n ?h); (case n => first | exact R.nio rfl rfl | exact R.nio rfl (DL.NoOw.ok (by assumption)))) | ((with_reducible refine R.nr_ ?n ?h); (case n => first | exact R.nio rfl rfl | exact R.nio rfl (DL.NoOw.ok (by assumption))))
  | ((with_reducible refine' R.an_name ?n ?h); (case n => first | assumption | exact R.nio rfl rfl | exact R.nio rfl (DL.NoOw.ok (by assumption)))) | ((with_reducible refine' R.an_two ?n ?m ?h); (case n => first | assumption | exact R.nio rfl rfl | exact R.nio rfl (DL.NoOw.ok (by assumption))); (case m => first | assumption | exact R.nio rfl rfl | exact R.nio rfl (DL.NoOw.ok (by assumption)))) | ((with_reducible refine' R.an_three ?n ?m ?o ?h); (case n => first | assumption | exact R.nio rfl rfl | exact R.nio rfl (DL.NoOw.ok (by assumption))); (case m => first | assumption | exact R.nio rfl rfl | exact R.nio rfl (DL.NoOw.ok (by assumption))); (case o => first | assumption | exact R.nio rfl rfl | exact R.nio rfl (DL.NoOw.ok (by assumption)))) | (with_reducible refine R.tt rfl ?_) | (with_reducible refine R.tn ?_) | (with_reducible refine R.tc ?_) | (with_reducible refine R.subd ?_) | ((with_reducible refine' R.own_and ?g ?h); (case g => exact rfl)) | ((with_reducible refine' R.put_at ?g ?g' ?h); (case g => exact rfl); (case g' => exact rfl)) | ((with_reducible refine' R.io_ref ?g ?h); (case g => exact rfl)) | (with_reducible refine R.io_own ?_) | (with_reducible refine R.one_1 ?_) | (with_reducible refine R.setn ?_) | (with_reducible refine R.setd ?_) | (with_reducible refine R.seto ?_) | (with_reducible refine R.setr ?_)
  | ((with_reducible refine' R.find ?g ?h); (case g => exact rfl)) | ((with_reducible refine' R.fino ?g ?h); (case g => exact rfl)) | ((with_reducible refine' R.finr ?g ?g' ?h); (case g => exact rfl); (case g' => exact rfl)) | ((with_reducible refine' R.find' ?g ?g' ?h); (case g => exact rfl); (case g' => exact rfl))
  | (with_reducible refine R.ifT ?_) | (with_reducible refine R.ifF ?_)
  | ((with_reducible refine' R.pow_i ?g ?h); (case g => decide)) | ((with_reducible refine' R.mul_i ?g ?h); (case g => exact mulOk 60 60 (by omega) (by omega) (by decide))) | ((with_reducible refine' R.fdiv_i ?g ?h); (case g => exact divOk (by omega) (by omega))) | ((with_reducible refine' R.mod_i ?g ?h); (case g => omega))
  | (with_reducible refine R.add_i ?_) | (with_reducible refine R.sub_i ?_) | (with_reducible refine R.lt_i ?_) | (with_reducible refine R.le_i ?_) | (with_reducible refine R.gt_i ?_) | (with_reducible refine R.ge_i ?_)
  | ((with_reducible refine' R.idx_l ?g ?h); (case g => exact rfl)) | ((with_reducible refine' R.idx_t ?g ?h); (case g => exact rfl)) | (with_reducible refine R.slc_l ?_) | (with_reducible refine R.slc_t ?_)
  | (with_reducible refine R.len_l ?_) | (with_reducible refine R.len_t ?_) | (with_reducible refine R.tuple_l ?_) | (with_reducible refine R.tuple_t ?_) | (with_reducible refine R.list_l ?_) | (with_reducible refine R.list_t ?_) | (with_reducible refine R.abs_i ?_) | (with_reducible refine R.int_i ?_) | (with_reducible refine R.gcd_i ?_)
  | (with_reducible refine R.isint ?_) | (with_reducible refine R.isbool ?_) | (with_reducible refine R.istuple ?_) | (with_reducible refine R.islist ?_)
  | (with_reducible refine R.sum_is ?_) | (with_reducible refine R.all_bs ?_) | ((with_reducible refine R.any_bs ?_))); (try dsimp only [List.map, List.set, Int.reduceToNat, Bool.not_true, Bool.not_false, DL.restR, DL.gt, DL.wipeR]))
/-- a loop over 0 .. n - 1 -/
theorem for_rng {σ : Type} {g : D → Rho → (Rho → Prop) → Prop} {b : DEn → Rho → Prop} {d : DEn} {n : Nat} (st : σ → Rho) (I : Nat → σ → Prop)
    (hs : ∀ a s nx, a < n → I a s → (∀ s', I (a + 1) s' → nx (st s')) → g (.int (a : Int)) (st s) fun ρ1 => b { nx := nx, ct := nx, bk := d.nx, rt := d.rt } ρ1)
    (hn : ∀ s, I n s → d.nx (st s)) (s : σ) (h : I 0 s) : forL g b d ((List.range n).map fun (i : Nat) => PyData.int (i : Int)) (st s) := by
  rw [List.range_eq_range']
  have key : ∀ k a s, a + k = n → I a s → forL g b d ((List.range' a k).map fun (i : Nat) => PyData.int (i : Int)) (st s) := by
    intro k
    induction k with
    | zero => intro a s e h; have : a = n := by omega
              subst this; exact hn s h
    | succ k ih =>
      intro a s e h
      rw [List.range'_succ, List.map_cons]
      exact hs a s _ (by omega) h fun s' h' => ih (a + 1) s' (by omega) h'
  exact key n 0 s (by omega) h
theorem two_pow_succ' (m : Nat) : 2 ^ (m + 1) = 2 ^ m + 2 ^ m := by rw [Nat.pow_succ]; omega
end Lib
namespace Lib
open PySem DL L2
local macro_rules | `(tactic| walk_at "w1") => `(tactic| (first
  | (with_reducible refine R.lit ?_) | (with_reducible refine R.con ?_)
  | ((with_reducible refine' R.var ?g ?h); (case g => exact rfl))
  | ((with_reducible refine' R.varO ?g ?h); (case g => exact rfl))
  | (with_reducible refine R.op2 ?_) | (with_reducible refine R.cmp ?_) | (with_reducible refine R.idx ?_) | (with_reducible refine R.slc ?_) | (with_reducible refine R.oN ?_) | (with_reducible refine R.oS ?_)
  | (with_reducible refine R.tcmp ?_) | (with_reducible refine R.tnot ?_) | (with_reducible refine R.tand ?_) | (with_reducible refine R.tor ?_) | (with_reducible refine R.tcall ?_) | (with_reducible refine R.tbi ?_) | (with_reducible refine R.tisN ?_) | (with_reducible refine R.tnotN ?_) | (with_reducible refine R.tchain ?_) | (with_reducible refine R.tvar ?_) | (with_reducible refine R.tcallK ?_)
  | (with_reducible refine R.isN ?_) | (with_reducible refine R.notN ?_) | (with_reducible refine R.chain ?_) | (with_reducible refine R.neg ?_) | (with_reducible refine R.not ?_) | (with_reducible refine R.and ?_) | (with_reducible refine R.or ?_) | (with_reducible refine R.ife ?_)
  | (with_reducible refine R.tup ?_) | (with_reducible refine R.lst ?_) | (with_reducible refine R.call ?_) | (with_reducible refine R.callK ?_) | (with_reducible refine R.callIo ?_) | (with_reducible refine R.bi ?_) | (with_reducible refine R.comp ?_) | (with_reducible refine R.index ?_) | (with_reducible refine R.repL ?_) | (with_reducible refine R.listR ?_)
  | (with_reducible refine R.an ?_) | (with_reducible refine R.ac ?_) | (with_reducible refine R.en ?_) | (with_reducible refine R.ec ?_) | (with_reducible refine R.ed ?_) | (with_reducible refine R.eo ?_)
  | ((with_reducible refine' R.erd ?g ?h); (case g => exact rfl)) | ((with_reducible refine' R.ero ?g ?h); (case g => exact rfl))
  | ((with_reducible refine' R.w1 ?g ?h); (case g => exact rfl)) | ((with_reducible refine' R.w2 ?g ?g' ?h); (case g => exact rfl); (case g' => exact rfl)) | ((with_reducible refine' R.ws ?g ?h); (case g => exact rfl))
  | (with_reducible refine R.fval rfl ?_) | (with_reducible refine R.f_l ?_) | (with_reducible refine R.f_t ?_) | (with_reducible refine R.ival rfl ?_) | (with_reducible refine R.i_l ?_) | (with_reducible refine R.i_t ?_) | (with_reducible refine R.i_o ?_) | ((with_reducible refine' R.i_r ?g ?h); (case g => exact rfl))
  | (with_reducible refine R.irange ?_) | (with_reducible refine R.frange ?_) | (with_reducible refine R.ienum ?_) | (with_reducible refine R.fenum ?_) | (with_reducible refine R.izip ?_) | (with_reducible refine R.fzip ?_) | (with_reducible refine R.irev ?_) | (with_reducible refine R.frev ?_) | ((with_reducible refine' R.zip_at ?g ?g' ?h); (case g => exact rfl); (case g' => exact rfl)) | (with_reducible refine R.eq_i ?_) | (with_reducible refine R.ne_i ?_) | (with_reducible refine R.sretN ?_)
  | (with_reducible refine R.sn ?_) | (with_reducible refine R.sc ?_) | (with_reducible refine R.sasg ?_) | (with_reducible refine R.spar ?_) | (with_reducible refine R.sexpr ?_) | (with_reducible refine R.sapp ?_) | (with_reducible refine R.sext ?_) | (with_reducible refine R.sret ?_) | (with_reducible refine R.site ?_) | (with_reducible refine R.sfor ?_)
  | ((with_reducible refine R.nd_ ?n ?h); (case n => first | exact R.nio rfl rfl | exact R.nio rfl (DL.NoOw.ok (by assumption)))) | ((with_reducible refine R.no_ ?n ?h); (case n => first | exact R.nio rfl rfl | exact R.nio rfl (DL.NoOw.ok (by assumption)))) | ((with_reducible refine R.nr_ ?n ?h); (case n => first | exact R.nio rfl rfl | exact R.nio rfl (DL.NoOw.ok (by assumption))))
  | ((with_reducible refine' R.an_name ?n ?h); (case n => first | assumption | exact R.nio rfl rfl | exact R.nio rfl (DL.NoOw.ok (by assumption)))) | ((with_reducible refine' R.an_two ?n ?m ?h); (case n => first | assumption | exact R.nio rfl rfl | exact R.nio rfl (DL.NoOw.ok (by assumption))); (case m => first | assumption | exact R.nio rfl rfl | exact R.nio rfl (DL.NoOw.ok (by assumption)))) | ((with_reducible refine' R.an_three ?n ?m ?o ?h); (case n => first | assumption | exact R.nio rfl rfl | exact R.nio rfl (DL.NoOw.ok (by assumption))); (case m => first | assumption | exact R.nio rfl rfl | exact R.nio rfl (DL.NoOw.ok (by assumption))); (case o => first | assumption | exact R.nio rfl rfl | exact R.nio rfl (DL.NoOw.ok (by assumption)))) | (with_reducible refine R.tt rfl ?_) | (with_reducible refine R.tn ?_) | (with_reducible refine R.tc ?_) | (with_reducible refine R.subd ?_) | ((with_reducible refine' R.own_and ?g ?h); (case g => exact rfl)) | ((with_reducible refine' R.put_at ?g ?g' ?h); (case g => exact rfl); (case g' => exact rfl)) | ((with_reducible refine' R.io_ref ?g ?h); (case g => exact rfl)) | (with_reducible refine R.io_own ?_) | (with_reducible refine R.one_1 ?_) | (with_reducible refine R.setn ?_) | (with_reducible refine R.setd ?_) | (with_reducible refine R.seto ?_) | (with_reducible refine R.setr ?_)
  | ((with_reducible refine' R.find ?g ?h); (case g => exact rfl)) | ((with_reducible refine' R.fino ?g ?h); (case g => exact rfl)) | ((with_reducible refine' R.finr ?g ?g' ?h); (case g => exact rfl); (case g' => exact rfl)) | ((with_reducible refine' R.find' ?g ?g' ?h); (case g => exact rfl); (case g' => exact rfl))
  | (with_reducible refine R.ifT ?_) | (with_reducible refine R.ifF ?_)
  | ((with_reducible refine' R.pow_i ?g ?h); (case g => decide)) | ((with_reducible refine' R.mul_i ?g ?h); (case g => exact mulOk 60 60 (by omega) (by omega) (by decide))) | ((with_reducible refine' R.fdiv_i ?g ?h); (case g => exact divOk (by omega) (by omega))) | ((with_reducible refine' R.mod_i ?g ?h); (case g => omega))
  | (with_reducible refine R.add_i ?_) | (with_reducible refine R.sub_i ?_) | (with_reducible refine R.lt_i ?_) | (with_reducible refine R.le_i ?_) | (with_reducible refine R.gt_i ?_) | (with_reducible refine R.ge_i ?_)
  | ((with_reducible refine' R.idx_l ?g ?h); (case g => exact rfl)) | ((with_reducible refine' R.idx_t ?g ?h); (case g => exact rfl)) | (with_reducible refine R.slc_l ?_) | (with_reducible refine R.slc_t ?_)
  | (with_reducible refine R.len_l ?_) | (with_reducible refine R.len_t ?_) | (with_reducible refine R.tuple_l ?_) | (with_reducible refine R.tuple_t ?_) | (with_reducible refine R.list_l ?_) | (with_reducible refine R.list_t ?_) | (with_reducible refine R.abs_i ?_) | (with_reducible refine R.int_i ?_) | (with_reducible refine R.gcd_i ?_)
  | (with_reducible refine R.isint ?_) | (with_reducible refine R.isbool ?_) | (with_reducible refine R.istuple ?_) | (with_reducible refine R.islist ?_)
  | (with_reducible refine R.sum_is ?_) | (with_reducible refine R.all_bs ?_) | ((with_reducible refine R.any_bs ?_))); (try dsimp only [List.map, List.set, Int.reduceToNat, Bool.not_true, Bool.not_false, DL.restR, DL.gt, DL.wipeR]))
theorem for_rngE {σ : Type} {g : D → Rho → (Rho → Prop) → Prop} {b : DEn → Rho → Prop} {d : DEn} {n : Nat} (emb : Nat → D) (st : σ → Rho) (I : Nat → σ → Prop)
    (hs : ∀ a s nx, a < n → I a s → (∀ s', I (a + 1) s' → nx (st s')) → g (emb a) (st s) fun ρ1 => b { nx := nx, ct := nx, bk := d.nx, rt := d.rt } ρ1)
    (hn : ∀ s, I n s → d.nx (st s)) (s : σ) (h : I 0 s) : forL g b d (tab n emb) (st s) := by
  unfold tab
  rw [List.range_eq_range']
  have key : ∀ k a s, a + k = n → I a s → forL g b d ((List.range' a k).map emb) (st s) := by
    intro k
    induction k with
    | zero => intro a s e h; have : a = n := by omega
              subst this; exact hn s h
    | succ k ih =>
      intro a s e h
      rw [List.range'_succ, List.map_cons]
      exact hs a s _ (by omega) h fun s' h' => ih (a + 1) s' (by omega) h'
  exact key n 0 s (by omega) h
/-! ### who is fed -/
def has (a : Nat → Rat) (i : Nat) : Bool := !decide (a i = 0)
noncomputable def fedL (n : Nat) (S : Nat → Nat → Rat) (a : Nat → Rat) : List Nat := Mx.rchL n (ed S) (has a)
/-! ### common denominators -/
structure Den (c n : Nat) (S : Nat → Nat → Rat) : Prop where
  ex : ∃ (N : Nat → Nat → Int) (u : Nat → Nat), ∀ i, i < n → 0 < u i ∧ u i < 2 ^ c ∧ ∀ j, j < n → 0 ≤ N i j ∧ N i j ≤ u i ∧ S i j = (N i j : Rat) / ((u i : Int) : Rat)
theorem Net.den {n : Nat} {S : Nat → Nat → Rat} (h : Net n S) : Den 9 n S := by
  have hS := h.sheet
  refine ⟨fun i j => if hi : i < n then (Classical.choose (h.row i hi)) j else 0, fun i => if hi : i < n then Classical.choose (Classical.choose_spec (h.row i hi)) else 1, fun i hi => ?_⟩
  simp only [dif_pos hi]
  have r := Classical.choose_spec (Classical.choose_spec (h.row i hi))
  generalize Classical.choose (Classical.choose_spec (h.row i hi)) = u at r ⊢
  have := r.u1
  have := r.u2
  refine ⟨by omega, by omega, fun j hj => ⟨r.n0 j hj, ?_, ?_⟩⟩
  · have l1 := hS.le1 hi hj
    rw [r.eq j hj, Rat.mkRat_eq_div] at l1
    have u0 : (0 : Rat) < (u : Rat) := by exact_mod_cast r.u1
    have : ((Classical.choose (h.row i hi) j : Int) : Rat) ≤ (u : Rat) := by
      have := Rat.mul_le_mul_of_nonneg_right l1 (Rat.le_of_lt u0)
      rw [Rat.div_mul_cancel (Rat.ne_of_gt u0), Rat.one_mul] at this
      exact this
    exact_mod_cast this
  · rw [r.eq j hj, Rat.mkRat_eq_div]; rfl
/-- the fed ones, by place -/
noncomputable def fd (n : Nat) (S : Nat → Nat → Rat) (a : Nat → Rat) (k : Nat) : Nat := (fedL n S a).getD k 0
end Lib
namespace Lib
open PySem DL L2
local macro_rules | `(tactic| walk_at "w1") => `(tactic| (first
  | (with_reducible refine R.lit ?_) | (with_reducible refine R.con ?_)
  | ((with_reducible refine' R.var ?g ?h); (case g => exact rfl))
  | ((with_reducible refine' R.varO ?g ?h); (case g => exact rfl))
  | (with_reducible refine R.op2 ?_) | (with_reducible refine R.cmp ?_) | (with_reducible refine R.idx ?_) | (with_reducible refine R.slc ?_) | (with_reducible refine R.oN ?_) | (with_reducible refine R.oS ?_)
  | (with_reducible refine R.tcmp ?_) | (with_reducible refine R.tnot ?_) | (with_reducible refine R.tand ?_) | (with_reducible refine R.tor ?_) | (with_reducible refine R.tcall ?_) | (with_reducible refine R.tbi ?_) | (with_reducible refine R.tisN ?_) | (with_reducible refine R.tnotN ?_) | (with_reducible refine R.tchain ?_) | (with_reducible refine R.tvar ?_) | (with_reducible refine R.tcallK ?_)
  | (with_reducible refine R.isN ?_) | (with_reducible refine R.notN ?_) | (with_reducible refine R.chain ?_) | (with_reducible refine R.neg ?_) | (with_reducible refine R.not ?_) | (with_reducible refine R.and ?_) | (with_reducible refine R.or ?_) | (with_reducible refine R.ife ?_)
  | (with_reducible refine R.tup ?_) | (with_reducible refine R.lst ?_) | (with_reducible refine R.call ?_) | (with_reducible refine R.callK ?_) | (with_reducible refine R.callIo ?_) | (with_reducible refine R.bi ?_) | (with_reducible refine R.comp ?_) | (with_reducible refine R.index ?_) | (with_reducible refine R.repL ?_) | (with_reducible refine R.listR ?_)
  | (with_reducible refine R.an ?_) | (with_reducible refine R.ac ?_) | (with_reducible refine R.en ?_) | (with_reducible refine R.ec ?_) | (with_reducible refine R.ed ?_) | (with_reducible refine R.eo ?_)
  | ((with_reducible refine' R.erd ?g ?h); (case g => exact rfl)) | ((with_reducible refine' R.ero ?g ?h); (case g => exact rfl))
  | ((with_reducible refine' R.w1 ?g ?h); (case g => exact rfl)) | ((with_reducible refine' R.w2 ?g ?g' ?h); (case g => exact rfl); (case g' => exact rfl)) | ((with_reducible refine' R.ws ?g ?h); (case g => exact rfl))
  | (with_reducible refine R.fval rfl ?_) | (with_reducible refine R.f_l ?_) | (with_reducible refine R.f_t ?_) | (with_reducible refine R.ival rfl ?_) | (with_reducible refine R.i_l ?_) | (with_reducible refine R.i_t ?_) | (with_reducible refine R.i_o ?_) | ((with_reducible refine' R.i_r ?g ?h); (case g => exact rfl))
  | (with_reducible refine R.irange ?_) | (with_reducible refine R.frange ?_) | (with_reducible refine R.ienum ?_) | (with_reducible refine R.fenum ?_) | (with_reducible refine R.izip ?_) | (with_reducible refine R.fzip ?_) | (with_reducible refine R.irev ?_) | (with_reducible refine R.frev ?_) | ((with_reducible refine' R.zip_at ?g ?g' ?h); (case g => exact rfl); (case g' => exact rfl)) | (with_reducible refine R.eq_i ?_) | (with_reducible refine R.ne_i ?_) | (with_reducible refine R.sretN ?_)
  | (with_reducible refine R.sn ?_) | (with_reducible refine R.sc ?_) | (with_reducible refine R.sasg ?_) | (with_reducible refine R.spar ?_) | (with_reducible refine R.sexpr ?_) | (with_reducible refine R.sapp ?_) | (with_reducible refine R.sext ?_) | (with_reducible refine R.sret ?_) | (with_reducible refine R.site ?_) | (with_reducible refine R.sfor ?_)
  | ((with_reducible refine R.nd_ ?n ?h); (case n => first | exact R.nio rfl rfl | exact R.nio rfl (DL.NoOw.ok (by assumption)))) | ((with_reducible refine R.no_ ?n ?h); (case n => first | exact R.nio rfl rfl | exact R.nio rfl (DL.NoOw.ok (by assumption)))) | ((with_reducible refine R.nr_ ?n ?h); (case n => first | exact R.nio rfl rfl | exact R.nio rfl (DL.NoOw.ok (by assumption))))
  | ((with_reducible refine' R.an_name ?n ?h); (case n => first | assumption | exact R.nio rfl rfl | exact R.nio rfl (DL.NoOw.ok (by assumption)))) | ((with_reducible refine' R.an_two ?n ?m ?h); (case n => first | assumption | exact R.nio rfl rfl | exact R.nio rfl (DL.NoOw.ok (by assumption))); (case m => first | assumption | exact R.nio rfl rfl | exact R.nio rfl (DL.NoOw.ok (by assumption)))) | ((with_reducible refine' R.an_three ?n ?m ?o ?h); (case n => first | assumption | exact R.nio rfl rfl | exact R.nio rfl (DL.NoOw.ok (by assumption))); (case m => first | assumption | exact R.nio rfl rfl | exact R.nio rfl (DL.NoOw.ok (by assumption))); (case o => first | assumption | exact R.nio rfl rfl | exact R.nio rfl (DL.NoOw.ok (by assumption)))) | (with_reducible refine R.tt rfl ?_) | (with_reducible refine R.tn ?_) | (with_reducible refine R.tc ?_) | (with_reducible refine R.subd ?_) | ((with_reducible refine' R.own_and ?g ?h); (case g => exact rfl)) | ((with_reducible refine' R.put_at ?g ?g' ?h); (case g => exact rfl); (case g' => exact rfl)) | ((with_reducible refine' R.io_ref ?g ?h); (case g => exact rfl)) | (with_reducible refine R.io_own ?_) | (with_reducible refine R.one_1 ?_) | (with_reducible refine R.setn ?_) | (with_reducible refine R.setd ?_) | (with_reducible refine R.seto ?_) | (with_reducible refine R.setr ?_)
  | ((with_reducible refine' R.find ?g ?h); (case g => exact rfl)) | ((with_reducible refine' R.fino ?g ?h); (case g => exact rfl)) | ((with_reducible refine' R.finr ?g ?g' ?h); (case g => exact rfl); (case g' => exact rfl)) | ((with_reducible refine' R.find' ?g ?g' ?h); (case g => exact rfl); (case g' => exact rfl))
  | (with_reducible refine R.ifT ?_) | (with_reducible refine R.ifF ?_)
  | ((with_reducible refine' R.pow_i ?g ?h); (case g => decide)) | ((with_reducible refine' R.mul_i ?g ?h); (case g => exact mulOk 60 60 (by omega) (by omega) (by decide))) | ((with_reducible refine' R.fdiv_i ?g ?h); (case g => exact divOk (by omega) (by omega))) | ((with_reducible refine' R.mod_i ?g ?h); (case g => omega))
  | (with_reducible refine R.add_i ?_) | (with_reducible refine R.sub_i ?_) | (with_reducible refine R.lt_i ?_) | (with_reducible refine R.le_i ?_) | (with_reducible refine R.gt_i ?_) | (with_reducible refine R.ge_i ?_)
  | ((with_reducible refine' R.idx_l ?g ?h); (case g => exact rfl)) | ((with_reducible refine' R.idx_t ?g ?h); (case g => exact rfl)) | (with_reducible refine R.slc_l ?_) | (with_reducible refine R.slc_t ?_)
  | (with_reducible refine R.len_l ?_) | (with_reducible refine R.len_t ?_) | (with_reducible refine R.tuple_l ?_) | (with_reducible refine R.tuple_t ?_) | (with_reducible refine R.list_l ?_) | (with_reducible refine R.list_t ?_) | (with_reducible refine R.abs_i ?_) | (with_reducible refine R.int_i ?_) | (with_reducible refine R.gcd_i ?_)
  | (with_reducible refine R.isint ?_) | (with_reducible refine R.isbool ?_) | (with_reducible refine R.istuple ?_) | (with_reducible refine R.islist ?_)
  | (with_reducible refine R.sum_is ?_) | (with_reducible refine R.all_bs ?_) | ((with_reducible refine R.any_bs ?_))); (try dsimp only [List.map, List.set, Int.reduceToNat, Bool.not_true, Bool.not_false, DL.restR, DL.gt, DL.wipeR]))
theorem w_amount {P : List FDef} [Nd P] [Has P d__law_amount] [Has P d__law_of] [Has P d__law_drop] [Has P d__law_frac] [Has P d__law_thin] [Has P d__law_gcd] {k m : Nat} {xs : List D} {Q E} (hx : Tap m xs) (hm : m < 900000) (h : ∀ (ys : List D) (q : Rat), Tap (m + 4) ys → 0 < q → Sz 9 q → Q (.dat (fr q)) [ys]) : gam P (k + 4) "_law_amount" [.own true xs] Q E := by
  refine R.opn Nd.nd (Has.mem (d := d__law_amount)) rfl ?_
  simp only [d__law_amount, List.map, List.replicate, List.length_cons, List.length_nil, List.cons_append, List.nil_append, Nat.reduceAdd, Nat.reduceSub]
  (repeat walk_at "w1")
  refine w_of (ys := [2, 3, 5, 9, 9, 400].map PyData.int) hx (by omega) (.inl rfl) (by simp) (by simp) fun zs y hz hy => ?_
  obtain ⟨v, hv, rfl⟩ := int_cases hy
  (repeat walk_at "w1")
  refine w_of (ys := [1, 1, 2, 5, 9, 400].map PyData.int) hz (by omega) (.inl rfl) (by simp) (by simp) fun us y hu hy2 => ?_
  obtain ⟨w, hw, rfl⟩ := int_cases hy2
  (repeat walk_at "w1")
  simp at hv hw
  refine w_dropT hu (by omega) (by omega) (by omega) fun as i ha hi => ?_
  (repeat walk_at "w1")
  refine w_dropT ha (by omega) (by omega) (by omega) fun bs j hb hj => ?_
  (repeat walk_at "w1")
  have e1 : (1 : Int) + (i : Int) = ((1 + i : Nat) : Int) := by omega
  have e2 : (1 : Int) + (j : Int) = ((1 + j : Nat) : Int) := by omega
  rw [e1, e2]
  refine w_frac (by omega) (Nat.lt_of_lt_of_le (m := 2 ^ 9) (by omega) (Nat.pow_le_pow_right (by omega) (by omega))) ?_
  (repeat walk_at "w1")
  refine h bs _ hb ?_ (sz_mk _ _ _ (by omega) (by omega) (by omega))
  have nn := mkRat_nonneg' (a := ((1 + i : Nat) : Int)) (u := 1 + j) (by omega)
  have ne : mkRat ((1 + i : Nat) : Int) (1 + j) ≠ 0 := by
    rw [Ne, Rat.mkRat_eq_zero (by omega)]; omega
  grind
end Lib
namespace Lib
open PySem DL L2
local macro_rules | `(tactic| walk_at "w1") => `(tactic| (first
  | (with_reducible refine R.lit ?_) | (with_reducible refine R.con ?_)
  | ((with_reducible refine' R.var ?g ?h); (case g => exact rfl))
  | ((with_reducible refine' R.varO ?g ?h); (case g => exact rfl))
  | (with_reducible refine R.op2 ?_) | (with_reducible refine R.cmp ?_) | (with_reducible refine R.idx ?_) | (with_reducible refine R.slc ?_) | (with_reducible refine R.oN ?_) | (with_reducible refine R.oS ?_)
  | (with_reducible refine R.tcmp ?_) | (with_reducible refine R.tnot ?_) | (with_reducible refine R.tand ?_) | (with_reducible refine R.tor ?_) | (with_reducible refine R.tcall ?_) | (with_reducible refine R.tbi ?_) | (with_reducible refine R.tisN ?_) | (with_reducible refine R.tnotN ?_) | (with_reducible refine R.tchain ?_) | (with_reducible refine R.tvar ?_) | (with_reducible refine R.tcallK ?_)
  | (with_reducible refine R.isN ?_) | (with_reducible refine R.notN ?_) | (with_reducible refine R.chain ?_) | (with_reducible refine R.neg ?_) | (with_reducible refine R.not ?_) | (with_reducible refine R.and ?_) | (with_reducible refine R.or ?_) | (with_reducible refine R.ife ?_)
  | (with_reducible refine R.tup ?_) | (with_reducible refine R.lst ?_) | (with_reducible refine R.call ?_) | (with_reducible refine R.callK ?_) | (with_reducible refine R.callIo ?_) | (with_reducible refine R.bi ?_) | (with_reducible refine R.comp ?_) | (with_reducible refine R.index ?_) | (with_reducible refine R.repL ?_) | (with_reducible refine R.listR ?_)
  | (with_reducible refine R.an ?_) | (with_reducible refine R.ac ?_) | (with_reducible refine R.en ?_) | (with_reducible refine R.ec ?_) | (with_reducible refine R.ed ?_) | (with_reducible refine R.eo ?_)
  | ((with_reducible refine' R.erd ?g ?h); (case g => exact rfl)) | ((with_reducible refine' R.ero ?g ?h); (case g => exact rfl))
  | ((with_reducible refine' R.w1 ?g ?h); (case g => exact rfl)) | ((with_reducible refine' R.w2 ?g ?g' ?h); (case g => exact rfl); (case g' => exact rfl)) | ((with_reducible refine' R.ws ?g ?h); (case g => exact rfl))
  | (with_reducible refine R.fval rfl ?_) | (with_reducible refine R.f_l ?_) | (with_reducible refine R.f_t ?_) | (with_reducible refine R.ival rfl ?_) | (with_reducible refine R.i_l ?_) | (with_reducible refine R.i_t ?_) | (with_reducible refine R.i_o ?_) | ((with_reducible refine' R.i_r ?g ?h); (case g => exact rfl))
  | (with_reducible refine R.irange ?_) | (with_reducible refine R.frange ?_) | (with_reducible refine R.ienum ?_) | (with_reducible refine R.fenum ?_) | (with_reducible refine R.izip ?_) | (with_reducible refine R.fzip ?_) | (with_reducible refine R.irev ?_) | (with_reducible refine R.frev ?_) | ((with_reducible refine' R.zip_at ?g ?g' ?h); (case g => exact rfl); (case g' => exact rfl)) | (with_reducible refine R.eq_i ?_) | (with_reducible refine R.ne_i ?_) | (with_reducible refine R.sretN ?_)
  | (with_reducible refine R.sn ?_) | (with_reducible refine R.sc ?_) | (with_reducible refine R.sasg ?_) | (with_reducible refine R.spar ?_) | (with_reducible refine R.sexpr ?_) | (with_reducible refine R.sapp ?_) | (with_reducible refine R.sext ?_) | (with_reducible refine R.sret ?_) | (with_reducible refine R.site ?_) | (with_reducible refine R.sfor ?_)
  | ((with_reducible refine R.nd_ ?n ?h); (case n => first | exact R.nio rfl rfl | exact R.nio rfl (DL.NoOw.ok (by assumption)))) | ((with_reducible refine R.no_ ?n ?h); (case n => first | exact R.nio rfl rfl | exact R.nio rfl (DL.NoOw.ok (by assumption)))) | ((with_reducible refine R.nr_ ?n ?h); (case n => first | exact R.nio rfl rfl | exact R.nio rfl (DL.NoOw.ok (by assumption))))
  | ((with_reducible refine' R.an_name ?n ?h); (case n => first | assumption | exact R.nio rfl rfl | exact R.nio rfl (DL.NoOw.ok (by assumption)))) | ((with_reducible refine' R.an_two ?n ?m ?h); (case n => first | assumption | exact R.nio rfl rfl | exact R.nio rfl (DL.NoOw.ok (by assumption))); (case m => first | assumption | exact R.nio rfl rfl | exact R.nio rfl (DL.NoOw.ok (by assumption)))) | ((with_reducible refine' R.an_three ?n ?m ?o ?h); (case n => first | assumption | exact R.nio rfl rfl | exact R.nio rfl (DL.NoOw.ok (by assumption))); (case m => first | assumption | exact R.nio rfl rfl | exact R.nio rfl (DL.NoOw.ok (by assumption))); (case o => first | assumption | exact R.nio rfl rfl | exact R.nio rfl (DL.NoOw.ok (by assumption)))) | (with_reducible refine R.tt rfl ?_) | (with_reducible refine R.tn ?_) | (with_reducible refine R.tc ?_) | (with_reducible refine R.subd ?_) | ((with_reducible refine' R.own_and ?g ?h); (case g => exact rfl)) | ((with_reducible refine' R.put_at ?g ?g' ?h); (case g => exact rfl); (case g' => exact rfl)) | ((with_reducible refine' R.io_ref ?g ?h); (case g => exact rfl)) | (with_reducible refine R.io_own ?_) | (with_reducible refine R.one_1 ?_) | (with_reducible refine R.setn ?_) | (with_reducible refine R.setd ?_) | (with_reducible refine R.seto ?_) | (with_reducible refine R.setr ?_)
  | ((with_reducible refine' R.find ?g ?h); (case g => exact rfl)) | ((with_reducible refine' R.fino ?g ?h); (case g => exact rfl)) | ((with_reducible refine' R.finr ?g ?g' ?h); (case g => exact rfl); (case g' => exact rfl)) | ((with_reducible refine' R.find' ?g ?g' ?h); (case g => exact rfl); (case g' => exact rfl))
  | (with_reducible refine R.ifT ?_) | (with_reducible refine R.ifF ?_)
  | ((with_reducible refine' R.pow_i ?g ?h); (case g => decide)) | ((with_reducible refine' R.mul_i ?g ?h); (case g => exact mulOk 60 60 (by omega) (by omega) (by decide))) | ((with_reducible refine' R.fdiv_i ?g ?h); (case g => exact divOk (by omega) (by omega))) | ((with_reducible refine' R.mod_i ?g ?h); (case g => omega))
  | (with_reducible refine R.add_i ?_) | (with_reducible refine R.sub_i ?_) | (with_reducible refine R.lt_i ?_) | (with_reducible refine R.le_i ?_) | (with_reducible refine R.gt_i ?_) | (with_reducible refine R.ge_i ?_)
  | ((with_reducible refine' R.idx_l ?g ?h); (case g => exact rfl)) | ((with_reducible refine' R.idx_t ?g ?h); (case g => exact rfl)) | (with_reducible refine R.slc_l ?_) | (with_reducible refine R.slc_t ?_)
  | (with_reducible refine R.len_l ?_) | (with_reducible refine R.len_t ?_) | (with_reducible refine R.tuple_l ?_) | (with_reducible refine R.tuple_t ?_) | (with_reducible refine R.list_l ?_) | (with_reducible refine R.list_t ?_) | (with_reducible refine R.abs_i ?_) | (with_reducible refine R.int_i ?_) | (with_reducible refine R.gcd_i ?_)
  | (with_reducible refine R.isint ?_) | (with_reducible refine R.isbool ?_) | (with_reducible refine R.istuple ?_) | (with_reducible refine R.islist ?_)
  | (with_reducible refine R.sum_is ?_) | (with_reducible refine R.all_bs ?_) | ((with_reducible refine R.any_bs ?_))); (try dsimp only [List.map, List.set, Int.reduceToNat, Bool.not_true, Bool.not_false, DL.restR, DL.gt, DL.wipeR]))
end Lib
namespace Lib
open PySem DL L2
local macro_rules | `(tactic| walk_at "w1") => `(tactic| (first
  | (with_reducible refine R.lit ?_) | (with_reducible refine R.con ?_)
  | ((with_reducible refine' R.var ?g ?h); (case g => exact rfl))
  | ((with_reducible refine' R.varO ?g ?h); (case g => exact rfl))
  | (with_reducible refine R.op2 ?_) | (with_reducible refine R.cmp ?_) | (with_reducible refine R.idx ?_) | (with_reducible refine R.slc ?_) | (with_reducible refine R.oN ?_) | (with_reducible refine R.oS ?_)
  | (with_reducible refine R.tcmp ?_) | (with_reducible refine R.tnot ?_) | (with_reducible refine R.tand ?_) | (with_reducible refine R.tor ?_) | (with_reducible refine R.tcall ?_) | (with_reducible refine R.tbi ?_) | (with_reducible refine R.tisN ?_) | (with_reducible refine R.tnotN ?_) | (with_reducible refine R.tchain ?_) | (with_reducible refine R.tvar ?_) | (with_reducible refine R.tcallK ?_)
  | (with_reducible refine R.isN ?_) | (with_reducible refine R.notN ?_) | (with_reducible refine R.chain ?_) | (with_reducible refine R.neg ?_) | (with_reducible refine R.not ?_) | (with_reducible refine R.and ?_) | (with_reducible refine R.or ?_) | (with_reducible refine R.ife ?_)
  | (with_reducible refine R.tup ?_) | (with_reducible refine R.lst ?_) | (with_reducible refine R.call ?_) | (with_reducible refine R.callK ?_) | (with_reducible refine R.callIo ?_) | (with_reducible refine R.bi ?_) | (with_reducible refine R.comp ?_) | (with_reducible refine R.index ?_) | (with_reducible refine R.repL ?_) | (with_reducible refine R.listR ?_)
  | (with_reducible refine R.an ?_) | (with_reducible refine R.ac ?_) | (with_reducible refine R.en ?_) | (with_reducible refine R.ec ?_) | (with_reducible refine R.ed ?_) | (with_reducible refine R.eo ?_)
  | ((with_reducible refine' R.erd ?g ?h); (case g => exact rfl)) | ((with_reducible refine' R.ero ?g ?h); (case g => exact rfl))
  | ((with_reducible refine' R.w1 ?g ?h); (case g => exact rfl)) | ((with_reducible refine' R.w2 ?g ?g' ?h); (case g => exact rfl); (case g' => exact rfl)) | ((with_reducible refine' R.ws ?g ?h); (case g => exact rfl))
  | (with_reducible refine R.fval rfl ?_) | (with_reducible refine R.f_l ?_) | (with_reducible refine R.f_t ?_) | (with_reducible refine R.ival rfl ?_) | (with_reducible refine R.i_l ?_) | (with_reducible refine R.i_t ?_) | (with_reducible refine R.i_o ?_) | ((with_reducible refine' R.i_r ?g ?h); (case g => exact rfl))
  | (with_reducible refine R.irange ?_) | (with_reducible refine R.frange ?_) | (with_reducible refine R.ienum ?_) | (with_reducible refine R.fenum ?_) | (with_reducible refine R.izip ?_) | (with_reducible refine R.fzip ?_) | (with_reducible refine R.irev ?_) | (with_reducible refine R.frev ?_) | ((with_reducible refine' R.zip_at ?g ?g' ?h); (case g => exact rfl); (case g' => exact rfl)) | (with_reducible refine R.eq_i ?_) | (with_reducible refine R.ne_i ?_) | (with_reducible refine R.sretN ?_)
  | (with_reducible refine R.sn ?_) | (with_reducible refine R.sc ?_) | (with_reducible refine R.sasg ?_) | (with_reducible refine R.spar ?_) | (with_reducible refine R.sexpr ?_) | (with_reducible refine R.sapp ?_) | (with_reducible refine R.sext ?_) | (with_reducible refine R.sret ?_) | (with_reducible refine R.site ?_) | (with_reducible refine R.sfor ?_)
  | ((with_reducible refine R.nd_ ?n ?h); (case n => first | exact R.nio rfl rfl | exact R.nio rfl (DL.NoOw.ok (by assumption)))) | ((with_reducible refine R.no_ ?n ?h); (case n => first | exact R.nio rfl rfl | exact R.nio rfl (DL.NoOw.ok (by assumption)))) | ((with_reducible refine R.nr_ ?n ?h); (case n => first | exact R.nio rfl rfl | exact R.nio rfl (DL.NoOw.ok (by assumption))))
  | ((with_reducible refine' R.an_name ?n ?h); (case n => first | assumption | exact R.nio rfl rfl | exact R.nio rfl (DL.NoOw.ok (by assumption)))) | ((with_reducible refine' R.an_two ?n ?m ?h); (case n => first | assumption | exact R.nio rfl rfl | exact R.nio rfl (DL.NoOw.ok (by assumption))); (case m => first | assumption | exact R.nio rfl rfl | exact R.nio rfl (DL.NoOw.ok (by assumption)))) | ((with_reducible refine' R.an_three ?n ?m ?o ?h); (case n => first | assumption | exact R.nio rfl rfl | exact R.nio rfl (DL.NoOw.ok (by assumption))); (case m => first | assumption | exact R.nio rfl rfl | exact R.nio rfl (DL.NoOw.ok (by assumption))); (case o => first | assumption | exact R.nio rfl rfl | exact R.nio rfl (DL.NoOw.ok (by assumption)))) | (with_reducible refine R.tt rfl ?_) | (with_reducible refine R.tn ?_) | (with_reducible refine R.tc ?_) | (with_reducible refine R.subd ?_) | ((with_reducible refine' R.own_and ?g ?h); (case g => exact rfl)) | ((with_reducible refine' R.put_at ?g ?g' ?h); (case g => exact rfl); (case g' => exact rfl)) | ((with_reducible refine' R.io_ref ?g ?h); (case g => exact rfl)) | (with_reducible refine R.io_own ?_) | (with_reducible refine R.one_1 ?_) | (with_reducible refine R.setn ?_) | (with_reducible refine R.setd ?_) | (with_reducible refine R.seto ?_) | (with_reducible refine R.setr ?_)
  | ((with_reducible refine' R.find ?g ?h); (case g => exact rfl)) | ((with_reducible refine' R.fino ?g ?h); (case g => exact rfl)) | ((with_reducible refine' R.finr ?g ?g' ?h); (case g => exact rfl); (case g' => exact rfl)) | ((with_reducible refine' R.find' ?g ?g' ?h); (case g => exact rfl); (case g' => exact rfl))
  | (with_reducible refine R.ifT ?_) | (with_reducible refine R.ifF ?_)
  | ((with_reducible refine' R.pow_i ?g ?h); (case g => decide)) | ((with_reducible refine' R.mul_i ?g ?h); (case g => exact mulOk 60 60 (by omega) (by omega) (by decide))) | ((with_reducible refine' R.fdiv_i ?g ?h); (case g => exact divOk (by omega) (by omega))) | ((with_reducible refine' R.mod_i ?g ?h); (case g => omega))
  | (with_reducible refine R.add_i ?_) | (with_reducible refine R.sub_i ?_) | (with_reducible refine R.lt_i ?_) | (with_reducible refine R.le_i ?_) | (with_reducible refine R.gt_i ?_) | (with_reducible refine R.ge_i ?_)
  | ((with_reducible refine' R.idx_l ?g ?h); (case g => exact rfl)) | ((with_reducible refine' R.idx_t ?g ?h); (case g => exact rfl)) | (with_reducible refine R.slc_l ?_) | (with_reducible refine R.slc_t ?_)
  | (with_reducible refine R.len_l ?_) | (with_reducible refine R.len_t ?_) | (with_reducible refine R.tuple_l ?_) | (with_reducible refine R.tuple_t ?_) | (with_reducible refine R.list_l ?_) | (with_reducible refine R.list_t ?_) | (with_reducible refine R.abs_i ?_) | (with_reducible refine R.int_i ?_) | (with_reducible refine R.gcd_i ?_)
  | (with_reducible refine R.isint ?_) | (with_reducible refine R.isbool ?_) | (with_reducible refine R.istuple ?_) | (with_reducible refine R.islist ?_)
  | (with_reducible refine R.sum_is ?_) | (with_reducible refine R.all_bs ?_) | ((with_reducible refine R.any_bs ?_))); (try dsimp only [List.map, List.set, Int.reduceToNat, Bool.not_true, Bool.not_false, DL.restR, DL.gt, DL.wipeR]))
/-! a unit bled -/
theorem w_inner {P : List FDef} [Nd P] [Has P d__law_inner] [Has P d__law_drop] [Has P d__law_of] [Has P d__law_frac] [Has P d__law_thin] [Has P d__law_gcd] {k m : Nat} {xs : List D} {Q E} (hx : Tap m xs) (hm : m < 900000) (h : ∀ (ys : List D) (q : Rat), Tap (m + 3) ys → 0 < q → q < 1 → Sz 9 q → Q (.dat (fr q)) [ys]) : gam P (k + 4) "_law_inner" [.own true xs] Q E := by
  refine R.opn Nd.nd (Has.mem (d := d__law_inner)) rfl ?_
  simp only [d__law_inner, List.map, List.replicate, List.length_cons, List.length_nil, List.cons_append, List.nil_append, Nat.reduceAdd, Nat.reduceSub]
  (repeat walk_at "w1")
  refine w_of (ys := [1, 3, 8, 8, 19, 400].map PyData.int) hx (by omega) (.inl rfl) (by simp) (by simp) fun zs y hz hy => ?_
  obtain ⟨v, hv, rfl⟩ := int_cases hy
  simp at hv
  (repeat walk_at "w1")
  refine w_dropT hz (by omega) (by omega) (by omega) fun us i hu hi => ?_
  (repeat walk_at "w1")
  refine w_dropT hu (by omega) (by omega) (by omega) fun ws j hw hj => ?_
  (repeat walk_at "w1")
  have e1 : (1 : Int) + (j : Int) = ((1 + j : Nat) : Int) := by omega
  have e2 : (2 : Int) + (i : Int) = ((2 + i : Nat) : Int) := by omega
  rw [e1, e2]
  refine w_frac (by omega) (Nat.lt_of_lt_of_le (m := 2 ^ 9) (by omega) (Nat.pow_le_pow_right (by omega) (by omega))) ?_
  (repeat walk_at "w1")
  have nn := mkRat_nonneg' (a := ((1 + j : Nat) : Int)) (u := 2 + i) (by omega)
  have ne : mkRat ((1 + j : Nat) : Int) (2 + i) ≠ 0 := by
    rw [Ne, Rat.mkRat_eq_zero (by omega)]; omega
  refine h ws _ hw (by grind) ?_ (sz_mk _ _ _ (by omega) (by omega) (by omega))
  rw [Rat.mkRat_eq_div, Rat.div_lt_iff (by exact_mod_cast (show 0 < 2 + i by omega)), Rat.one_mul]
  have : ((1 + j : Nat) : Int) < ((2 + i : Nat) : Int) := by omega
  exact_mod_cast this
end Lib
namespace K91
open PySem DL
abbrev top (i : Nat) : Stmt := PySem.Challenge.pw_partedcolumns_k91_whole_what_samples_let.main.body.getD i (.Pass ⟨0, 0, 0, 0⟩)
abbrev d_is_whole : FDef := Lib.d_is_whole
abbrev d_is_between : FDef := Lib.d_is_between
abbrev d_are_wholes : FDef := Lib.d_are_wholes
abbrev d_divisor_of : FDef := Lib.d_divisor_of
abbrev d_lowest : FDef := Lib.d_lowest
abbrev d_is_ratio : FDef := Lib.d_is_ratio
abbrev d_ratio : FDef := Lib.d_ratio
abbrev d_plus : FDef := Lib.d_plus
abbrev d_minus : FDef := Lib.d_minus
abbrev d_over : FDef := Lib.d_over
def d_power : FDef := ⟨"power", ["one", "many"], ["one", "many", "_", "top", "low"],
  [.par [.name 3, .name 4] [.lit (.int 1), .lit (.int 1)], .for_ (.name 2) (.range [.var 1]) [.par [.name 3, .name 4] [.op2 .mul (.var 3) (.idx (.var 0) (.lit (.int 0))), .op2 .mul (.var 4) (.idx (.var 0) (.lit (.int 1)))]], .ret (.tup [.var 3, .var 4])]⟩
abbrev d_is_below : FDef := Lib.d_is_below
abbrev d_is_share : FDef := Lib.d_is_share
def d_is_inner : FDef := ⟨"is_inner", ["value"], ["value"],
  [.ret (.and (.call "is_ratio" [.var 0]) (.and (.cmp .lt (.lit (.int 0)) (.idx (.var 0) (.lit (.int 0)))) (.cmp .lt (.idx (.var 0) (.lit (.int 0))) (.idx (.var 0) (.lit (.int 1))))))]⟩
def d_is_volatility : FDef := ⟨"is_volatility", ["value"], ["value"],
  [.ret (.and (.call "is_ratio" [.var 0]) (.cmp .gt (.idx (.var 0) (.lit (.int 0))) (.idx (.var 0) (.lit (.int 1)))))]⟩
def d_check_share : FDef := ⟨"check_share", ["value"], ["value"],
  [.ite (.not (.call "is_share" [.var 0])) [.raise_ "" none] []]⟩
def d_odds_by : FDef := ⟨"odds_by", ["share"], ["share"],
  [.ret (.call "over" [.var 0, .call "minus" [.con "ONE" (.tuple [(.int 1), (.int 1)]), .var 0]])]⟩
abbrev d_share_with : FDef := Lib.d_share_with
def d_check_volatility : FDef := ⟨"check_volatility", ["value"], ["value"],
  [.ite (.not (.call "is_volatility" [.var 0])) [.raise_ "" none] []]⟩
def d_check_many : FDef := ⟨"check_many", ["value"], ["value"],
  [.ite (.not (.call "is_between" [.var 0, .lit (.int 0), .con "MOST_PLATES" (.int 60)])) [.raise_ "" none] []]⟩
def d_after_plates : FDef := ⟨"after_plates", ["volatility", "share", "many"], ["volatility", "share", "many"],
  [.expr (.call "check_volatility" [.var 0]), .expr (.call "check_share" [.var 1]), .expr (.call "check_many" [.var 2]), .ret (.ife (.cmp .eq (.var 1) (.con "ONE" (.tuple [(.int 1), (.int 1)]))) (.con "ONE" (.tuple [(.int 1), (.int 1)])) (.call "share_with" [.call "over" [.call "odds_by" [.var 1], .call "power" [.var 0, .var 2]]]))]⟩
def d_is_pair : FDef := ⟨"is_pair", ["value"], ["value"],
  [.ite (.or (.not (.bi .isTuple [.var 0])) (.or (.cmp .ne (.bi .len [.var 0]) (.lit (.int 2))) (.or (.not (.call "is_inner" [.idx (.var 0) (.lit (.int 0))])) (.not (.call "is_inner" [.idx (.var 0) (.lit (.int 1))]))))) [.ret (.lit (.bool false))] [], .ret (.not (.call "is_below" [.idx (.var 0) (.lit (.int 1)), .idx (.var 0) (.lit (.int 0))]))]⟩
def d_is_sample : FDef := ⟨"is_sample", ["value"], ["value"],
  [.ite (.or (.not (.bi .isTuple [.var 0])) (.or (.cmp .ne (.bi .len [.var 0]) (.lit (.int 3))) (.not (.call "is_between" [.idx (.var 0) (.lit (.int 0)), .lit (.int 1), .con "MOST_BOILS" (.int 12)])))) [.ret (.lit (.bool false))] [], .ret (.and (.call "is_pair" [.idx (.var 0) (.lit (.int 1))]) (.call "is_pair" [.idx (.var 0) (.lit (.int 2))]))]⟩
def d_wrong_sample : FDef := ⟨"wrong_sample", ["value"], ["value", "at", "sample"],
  [.for_ (.tup [.name 1, .name 2]) (.enum (.var 0)) [.ite (.or (.cmp .eq (.var 1) (.con "MOST_SAMPLES" (.int 8))) (.not (.call "is_sample" [.var 2]))) [.ret (.var 1)] []], .ret (.lit .none)]⟩
def d_check_samples : FDef := ⟨"check_samples", ["value"], ["value", "at"],
  [.ite (.or (.not (.bi .isTuple [.var 0])) (.cmp .eq (.var 0) (.tup []))) [.raise_ "" none] [], .asg (.name 1) (.call "wrong_sample" [.var 0]), .ite (.notN (.var 1)) [.raise_ "" none] []]⟩
def d_low_end : FDef := ⟨"low_end", ["sample"], ["sample", "many", "liquid", "vapour"],
  [.asg (.tup [.name 1, .name 2, .name 3]) (.var 0), .ret (.tup [.call "over" [.call "odds_by" [.idx (.var 3) (.lit (.int 0))], .call "odds_by" [.idx (.var 2) (.lit (.int 1))]], .var 1])]⟩
def d_high_end : FDef := ⟨"high_end", ["sample"], ["sample", "many", "liquid", "vapour"],
  [.asg (.tup [.name 1, .name 2, .name 3]) (.var 0), .ret (.tup [.call "over" [.call "odds_by" [.idx (.var 3) (.lit (.int 1))], .call "odds_by" [.idx (.var 2) (.lit (.int 0))]], .var 1])]⟩
def d_is_end_below : FDef := ⟨"is_end_below", ["end", "other"], ["end", "other"],
  [.ret (.call "is_below" [.call "power" [.idx (.var 0) (.lit (.int 0)), .idx (.var 1) (.lit (.int 1))], .call "power" [.idx (.var 1) (.lit (.int 0)), .idx (.var 0) (.lit (.int 1))]])]⟩
def d_is_empty : FDef := ⟨"is_empty", ["low", "high"], ["low", "high"],
  [.ret (.or (.not (.call "is_below" [.con "ONE" (.tuple [(.int 1), (.int 1)]), .idx (.var 1) (.lit (.int 0))])) (.call "is_end_below" [.var 1, .var 0]))]⟩
def d_ends_by : FDef := ⟨"ends_by", ["samples"], ["samples", "sample", "low", "high"],
  [.par [.name 2, .name 3] [.call "low_end" [.idx (.var 0) (.lit (.int 0))], .call "high_end" [.idx (.var 0) (.lit (.int 0))]], .for_ (.name 1) (.var 0) [.ite (.call "is_end_below" [.var 2, .call "low_end" [.var 1]]) [.asg (.name 2) (.call "low_end" [.var 1])] [], .ite (.call "is_end_below" [.call "high_end" [.var 1], .var 3]) [.asg (.name 3) (.call "high_end" [.var 1])] []], .ret (.tup [.var 2, .var 3])]⟩
def d_fits_by : FDef := ⟨"fits_by", ["sample", "volatility"], ["sample", "volatility", "number"],
  [.asg (.name 2) (.call "power" [.var 1, .idx (.var 0) (.lit (.int 0))]), .ret (.and (.not (.call "is_below" [.var 2, .idx (.call "low_end" [.var 0]) (.lit (.int 0))])) (.not (.call "is_below" [.idx (.call "high_end" [.var 0]) (.lit (.int 0)), .var 2])))]⟩
def d_odd_ones : FDef := ⟨"odd_ones", ["samples"], ["samples", "one", "sample", "two", "low", "high"],
  [.for_ (.tup [.name 1, .name 2]) (.enum (.var 0)) [.ite (.call "is_empty" [.call "low_end" [.var 2], .call "high_end" [.var 2]]) [.ret (.tup [.var 1])] []], .for_ (.name 1) (.range [.bi .len [.var 0]]) [.for_ (.name 3) (.range [.op2 .add (.var 1) (.lit (.int 1)), .bi .len [.var 0]]) [.asg (.tup [.name 4, .name 5]) (.call "ends_by" [.tup [.idx (.var 0) (.var 1), .idx (.var 0) (.var 3)]]), .ite (.call "is_empty" [.var 4, .var 5]) [.ret (.tup [.var 1, .var 3])] []]], .ret (.lit .none)]⟩
def d_same_end : FDef := ⟨"same_end", ["end", "other"], ["end", "other"],
  [.ret (.and (.not (.call "is_end_below" [.var 0, .var 1])) (.not (.call "is_end_below" [.var 1, .var 0])))]⟩
def d_same_stretch : FDef := ⟨"same_stretch", ["samples", "others"], ["samples", "others", "low", "high", "its_low", "its_high", "is_open", "is_its_open"],
  [.asg (.tup [.name 2, .name 3]) (.call "ends_by" [.var 0]), .asg (.tup [.name 4, .name 5]) (.call "ends_by" [.var 1]), .ite (.or (.call "is_empty" [.var 2, .var 3]) (.call "is_empty" [.var 4, .var 5])) [.ret (.and (.call "is_empty" [.var 2, .var 3]) (.call "is_empty" [.var 4, .var 5]))] [], .ite (.not (.call "same_end" [.var 3, .var 5])) [.ret (.lit (.bool false))] [], .par [.name 6, .name 7] [.not (.call "is_below" [.con "ONE" (.tuple [(.int 1), (.int 1)]), .idx (.var 2) (.lit (.int 0))]), .not (.call "is_below" [.con "ONE" (.tuple [(.int 1), (.int 1)]), .idx (.var 4) (.lit (.int 0))])], .ret (.or (.and (.var 6) (.var 7)) (.call "same_end" [.var 2, .var 4]))]⟩
def d_fits_samples : FDef := ⟨"fits_samples", ["samples", "volatility"], ["samples", "volatility", "sample"],
  [.expr (.call "check_samples" [.var 0]), .expr (.call "check_volatility" [.var 1]), .ret (.bi .all [.comp (.call "fits_by" [.var 2, .var 1]) (.name 2) (.var 0) none [2]])]⟩
def d_ends_of : FDef := ⟨"ends_of", ["samples"], ["samples", "low", "high"],
  [.expr (.call "check_samples" [.var 0]), .asg (.tup [.name 1, .name 2]) (.call "ends_by" [.var 0]), .ret (.ife (.call "is_empty" [.var 1, .var 2]) (.lit .none) (.tup [.var 1, .var 2]))]⟩
def d_at_odds : FDef := ⟨"at_odds", ["samples"], ["samples"],
  [.expr (.call "check_samples" [.var 0]), .ret (.call "odd_ones" [.var 0])]⟩
def d_needless_samples : FDef := ⟨"needless_samples", ["samples"], ["samples", "found", "at", "others"],
  [.expr (.call "check_samples" [.var 0]), .asg (.name 1) (.lst []), .for_ (.name 2) (.range [.bi .len [.var 0]]) [.asg (.name 3) (.op2 .add (.slc (.var 0) none (some (.var 2))) (.slc (.var 0) (some (.op2 .add (.var 2) (.lit (.int 1)))) none)), .ite (.and (.cmp .ne (.var 3) (.tup [])) (.call "same_stretch" [.var 0, .var 3])) [.app 1 (.var 2)] []], .ret (.bi .tuple [.var 1])]⟩
abbrev d__law_tap : FDef := Lib.d__law_tap
abbrev d__law_drop : FDef := Lib.d__law_drop
abbrev d__law_of : FDef := Lib.d__law_of
abbrev d__law_gcd : FDef := Lib.d__law_gcd
abbrev d__law_thin : FDef := Lib.d__law_thin
abbrev d__law_frac : FDef := Lib.d__law_frac
abbrev d__law_add : FDef := Lib.d__law_add
abbrev d__law_over : FDef := Lib.d__law_over
abbrev d__law_side : FDef := Lib.d__law_side
def d__law_power : FDef := ⟨"_law_power", ["one", "times"], ["one", "times", "found", "turn"],
  [.asg (.name 2) (.lit (.int 1)), .for_ (.name 3) (.range [.var 1]) [.asg (.name 2) (.op2 .mul (.var 2) (.var 0))], .ret (.var 2)]⟩
abbrev d__law_amount : FDef := Lib.d__law_amount
abbrev d__law_inner : FDef := Lib.d__law_inner
def d__law_raise : FDef := ⟨"_law_raise", ["one", "times"], ["one", "times"],
  [.ret (.tup [.call "_law_power" [.idx (.var 0) (.lit (.int 0)), .var 1], .call "_law_power" [.idx (.var 0) (.lit (.int 1)), .var 1]])]⟩
def d__law_roots : FDef := ⟨"_law_roots", ["one", "two"], ["one", "two"],
  [.ret (.call "_law_side" [.call "_law_raise" [.idx (.var 0) (.lit (.int 0)), .idx (.var 1) (.lit (.int 1))], .call "_law_raise" [.idx (.var 1) (.lit (.int 0)), .idx (.var 0) (.lit (.int 1))]])]⟩
def d__law_odds : FDef := ⟨"_law_odds", ["one"], ["one"],
  [.ret (.call "_law_frac" [.idx (.var 0) (.lit (.int 0)), .op2 .sub (.idx (.var 0) (.lit (.int 1))) (.idx (.var 0) (.lit (.int 0)))])]⟩
def d__law_bounds : FDef := ⟨"_law_bounds", ["probe"], ["probe", "low2", "many2", "wet", "dry"],
  [.asg (.tup [.name 2, .name 3, .name 4]) (.var 0), .asg (.name 1) (.call "_law_over" [.call "_law_odds" [.idx (.var 4) (.lit (.int 0))], .call "_law_odds" [.idx (.var 3) (.lit (.int 1))]]), .ret (.tup [.tup [.var 1, .var 2], .tup [.call "_law_over" [.call "_law_odds" [.idx (.var 4) (.lit (.int 1))], .call "_law_odds" [.idx (.var 3) (.lit (.int 0))]], .var 2]])]⟩
def d__law_ends_of : FDef := ⟨"_law_ends_of", ["probes"], ["probes", "each", "low2", "high2", "one", "two"],
  [.asg (.tup [.name 2, .name 3]) (.call "_law_bounds" [.idx (.var 0) (.lit (.int 0))]), .for_ (.name 1) (.slc (.var 0) (some (.lit (.int 1))) none) [.asg (.tup [.name 4, .name 5]) (.call "_law_bounds" [.var 1]), .asg (.name 2) (.ife (.cmp .gt (.call "_law_roots" [.var 4, .var 2]) (.lit (.int 0))) (.var 4) (.var 2)), .asg (.name 3) (.ife (.cmp .lt (.call "_law_roots" [.var 5, .var 3]) (.lit (.int 0))) (.var 5) (.var 3))], .ret (.tup [.var 2, .var 3])]⟩
def d__law_is_let : FDef := ⟨"_law_is_let", ["probes"], ["probes", "low2", "high2"],
  [.asg (.tup [.name 1, .name 2]) (.call "_law_ends_of" [.var 0]), .ret (.and (.cmp .gt (.call "_law_side" [.idx (.var 2) (.lit (.int 0)), .tup [.lit (.int 1), .lit (.int 1)]]) (.lit (.int 0))) (.cmp .le (.call "_law_roots" [.var 1, .var 2]) (.lit (.int 0))))]⟩
def d__law_pair_of : FDef := ⟨"_law_pair_of", ["tap"], ["tap", "one", "two"],
  [.par [.name 1, .name 2] [.callIo "_law_inner" (.var 0) [], .callIo "_law_inner" (.var 0) []], .ite (.cmp .eq (.callIo "_law_drop" (.var 0) [.lit (.int 3)]) (.lit (.int 0))) [.asg (.name 2) (.var 1)] [], .ret (.ife (.cmp .le (.call "_law_side" [.var 1, .var 2]) (.lit (.int 0))) (.tup [.var 1, .var 2]) (.tup [.var 2, .var 1]))]⟩
def d__law_probe : FDef := ⟨"_law_probe", ["tap", "true2", "many2"], ["tap", "true2", "many2", "wet", "each", "by", "shares"],
  [.asg (.name 3) (.callIo "_law_pair_of" (.var 0) []), .ite (.cmp .eq (.callIo "_law_drop" (.var 0) [.lit (.int 4)]) (.lit (.int 0))) [.ret (.tup [.var 2, .var 3, .callIo "_law_pair_of" (.var 0) []])] [], .par [.name 5, .name 6] [.call "_law_raise" [.var 1, .var 2], .lst []], .for_ (.name 4) (.var 3) [.app 6 (.call "_law_frac" [.op2 .mul (.idx (.var 4) (.lit (.int 0))) (.idx (.var 5) (.lit (.int 0))), .op2 .add (.op2 .mul (.idx (.var 4) (.lit (.int 0))) (.idx (.var 5) (.lit (.int 0)))) (.op2 .mul (.op2 .sub (.idx (.var 4) (.lit (.int 1))) (.idx (.var 4) (.lit (.int 0)))) (.idx (.var 5) (.lit (.int 1))))])], .ite (.cmp .eq (.callIo "_law_drop" (.var 0) [.lit (.int 3)]) (.lit (.int 0))) [.asg (.sub 6 (.lit (.int 1))) (.idx (.var 6) (.lit (.int 0)))] [], .ite (.cmp .eq (.callIo "_law_drop" (.var 0) [.lit (.int 3)]) (.lit (.int 0))) [.asg (.sub 6 (.lit (.int 1))) (.call "_law_frac" [.op2 .add (.idx (.idx (.var 6) (.lit (.int 1))) (.lit (.int 0))) (.idx (.idx (.var 6) (.lit (.int 1))) (.lit (.int 1))), .op2 .mul (.lit (.int 2)) (.idx (.idx (.var 6) (.lit (.int 1))) (.lit (.int 1)))])] [], .ret (.tup [.var 2, .var 3, .bi .tuple [.var 6]])]⟩
def d__law_probes : FDef := ⟨"_law_probes", ["tap", "most2", "is_plain"], ["tap", "most2", "is_plain", "lap", "found", "true2"],
  [.par [.name 4, .name 5] [.lst [], .callIo "_law_of" (.var 0) [.lst [.tup [.lit (.int 2), .lit (.int 1)], .tup [.lit (.int 3), .lit (.int 2)], .tup [.lit (.int 3), .lit (.int 1)], .tup [.lit (.int 5), .lit (.int 4)], .tup [.lit (.int 11), .lit (.int 10)], .tup [.lit (.int 7), .lit (.int 1)]]]], .for_ (.name 3) (.range [.op2 .add (.lit (.int 1)) (.callIo "_law_drop" (.var 0) [.var 1])]) [.app 4 (.callIo "_law_probe" (.var 0) [.var 5, .ife (.var 2) (.lit (.int 1)) (.callIo "_law_of" (.var 0) [.lst [.lit (.int 1), .lit (.int 1), .lit (.int 1), .lit (.int 2), .lit (.int 2), .lit (.int 3), .lit (.int 4), .lit (.int 12)]])])], .ite (.and (.cmp .lt (.bi .len [.var 4]) (.var 1)) (.cmp .eq (.callIo "_law_drop" (.var 0) [.lit (.int 4)]) (.lit (.int 0)))) [.app 4 (.idx (.var 4) (.lit (.int 0)))] [], .ret (.bi .tuple [.var 4])]⟩
def d__law_odd_ones : FDef := ⟨"_law_odd_ones", ["probes"], ["probes", "k", "to"],
  [.ite (.call "_law_is_let" [.var 0]) [.ret (.lit .none)] [], .for_ (.name 1) (.range [.bi .len [.var 0]]) [.ite (.not (.call "_law_is_let" [.slc (.var 0) (some (.var 1)) (some (.op2 .add (.var 1) (.lit (.int 1))))])) [.ret (.tup [.var 1])] []], .for_ (.name 1) (.range [.bi .len [.var 0]]) [.for_ (.name 2) (.range [.op2 .add (.var 1) (.lit (.int 1)), .bi .len [.var 0]]) [.ite (.not (.call "_law_is_let" [.tup [.idx (.var 0) (.var 1), .idx (.var 0) (.var 2)]])) [.ret (.tup [.var 1, .var 2])] []]], .ret (.tup [])]⟩
def d__law_is_needless : FDef := ⟨"_law_is_needless", ["probes", "at"], ["probes", "at", "rest", "both", "one", "two", "each"],
  [.asg (.name 2) (.op2 .add (.slc (.var 0) none (some (.var 1))) (.slc (.var 0) (some (.op2 .add (.var 1) (.lit (.int 1)))) none)), .ite (.or (.cmp .eq (.var 2) (.tup [])) (.cmp .ne (.call "_law_is_let" [.var 0]) (.call "_law_is_let" [.var 2]))) [.ret (.lit (.bool false))] [], .ite (.not (.call "_law_is_let" [.var 0])) [.ret (.lit (.bool true))] [], .par [.name 4, .name 5] [.call "_law_ends_of" [.var 0], .call "_law_ends_of" [.var 2]], .asg (.name 3) (.comp (.cmp .gt (.call "_law_side" [.idx (.idx (.var 6) (.lit (.int 0))) (.lit (.int 0)), .tup [.lit (.int 1), .lit (.int 1)]]) (.lit (.int 0))) (.name 6) (.lst [.var 4, .var 5]) none [6]), .ret (.and (.cmp .eq (.call "_law_roots" [.idx (.var 4) (.lit (.int 1)), .idx (.var 5) (.lit (.int 1))]) (.lit (.int 0))) (.or (.cmp .eq (.var 3) (.lst [.lit (.bool false), .lit (.bool false)])) (.cmp .eq (.call "_law_roots" [.idx (.var 4) (.lit (.int 0)), .idx (.var 5) (.lit (.int 0))]) (.lit (.int 0)))))]⟩
def d__law_is_fit : FDef := ⟨"_law_is_fit", ["probes", "each"], ["probes", "each", "probe", "by", "low2", "high2"],
  [.for_ (.name 2) (.var 0) [.asg (.tup [.name 4, .name 5]) (.call "_law_bounds" [.var 2]), .asg (.name 3) (.call "_law_raise" [.var 1, .idx (.var 2) (.lit (.int 0))]), .ite (.or (.cmp .lt (.call "_law_side" [.var 3, .idx (.var 4) (.lit (.int 0))]) (.lit (.int 0))) (.cmp .gt (.call "_law_side" [.var 3, .idx (.var 5) (.lit (.int 0))]) (.lit (.int 0)))) [.ret (.lit (.bool false))] []], .ret (.lit (.bool true))]⟩
def d__law_right : FDef := ⟨"_law_right", ["tap"], ["tap", "probes", "due", "told", "needless", "asked", "each", "down", "low2", "high2", "is_fit", "is_between_v", "many2", "wet", "dry", "at"],
  [.asg (.name 1) (.callIo "_law_probes" (.var 0) [.lit (.int 8), .cmp .eq (.callIo "_law_drop" (.var 0) [.lit (.int 3)]) (.lit (.int 0))]), .asg (.tup [.name 8, .name 9]) (.call "_law_ends_of" [.var 1]), .asg (.name 2) (.ife (.call "_law_is_let" [.var 1]) (.tup [.var 8, .var 9]) (.lit .none)), .asg (.name 3) (.lst [.call "ends_of" [.var 1], .callK "ends_of" ["samples"] [.var 1], .call "at_odds" [.var 1], .callK "at_odds" ["samples"] [.var 1]]), .ite (.cmp .ne (.bi .repr [.var 3]) (.bi .repr [.lst [.var 2, .var 2, .call "_law_odd_ones" [.var 1], .call "_law_odd_ones" [.var 1]]])) [.ret (.lit (.bool false))] [], .asg (.name 4) (.bi .tuple [.comp (.var 15) (.name 15) (.range [.bi .len [.var 1]]) (some (.call "_law_is_needless" [.var 1, .var 15])) [15]]), .ite (.cmp .ne (.bi .repr [.lst [.call "needless_samples" [.var 1], .callK "needless_samples" ["samples"] [.var 1]]]) (.bi .repr [.lst [.var 4, .var 4]])) [.ret (.lit (.bool false))] [], .asg (.name 5) (.lst [.tup [.lit (.int 2), .lit (.int 1)], .tup [.lit (.int 3), .lit (.int 2)], .tup [.lit (.int 3), .lit (.int 1)], .tup [.lit (.int 5), .lit (.int 4)], .tup [.lit (.int 11), .lit (.int 10)], .call "_law_add" [.tup [.lit (.int 1), .lit (.int 1)], .callIo "_law_amount" (.var 0) []]]), .for_ (.name 6) (.lst [.var 8, .var 9]) [.ite (.and (.cmp .eq (.idx (.var 6) (.lit (.int 1))) (.lit (.int 1))) (.cmp .gt (.call "_law_side" [.idx (.var 6) (.lit (.int 0)), .tup [.lit (.int 1), .lit (.int 1)]]) (.lit (.int 0)))) [.asg (.name 5) (.op2 .add (.var 5) (.lst [.idx (.var 6) (.lit (.int 0)), .call "_law_add" [.idx (.var 6) (.lit (.int 0)), .tup [.lit (.int 1), .lit (.int 1000)]]]))] []], .for_ (.name 6) (.var 5) [.asg (.name 10) (.call "_law_is_fit" [.var 1, .var 6]), .ite (.cmp .ne (.bi .repr [.lst [.call "fits_samples" [.var 1, .var 6], .callK "fits_samples" ["samples", "volatility"] [.var 1, .var 6]]]) (.bi .repr [.lst [.var 10, .var 10]])) [.ret (.lit (.bool false))] [], .asg (.name 11) (.and (.cmp .ge (.call "_law_roots" [.tup [.var 6, .lit (.int 1)], .var 8]) (.lit (.int 0))) (.cmp .le (.call "_law_roots" [.tup [.var 6, .lit (.int 1)], .var 9]) (.lit (.int 0)))), .ite (.or (.cmp .ne (.var 11) (.var 10)) (.and (.var 10) (.isN (.var 2)))) [.ret (.lit (.bool false))] []], .asg (.tup [.name 12, .name 13, .name 14]) (.idx (.var 1) (.lit (.int 0))), .asg (.name 7) (.call "after_plates" [.idx (.var 5) (.lit (.int 0)), .idx (.var 14) (.lit (.int 1)), .var 12]), .ret (.or (.not (.call "fits_samples" [.var 1, .idx (.var 5) (.lit (.int 0))])) (.cmp .ge (.call "_law_side" [.var 7, .idx (.var 13) (.lit (.int 0))]) (.lit (.int 0))))]⟩
def d_law : FDef := ⟨"law", ["script"], ["script", "turn"],
  [.ret (.bi .all [.comp (.callIo "_law_right" (.call "_law_tap" [.var 0, .var 1]) []) (.name 1) (.range [.lit (.int 2)]) none [1]])]⟩
def P : List FDef := [d_is_whole, d_is_between, d_are_wholes, d_divisor_of, d_lowest, d_is_ratio, d_ratio, d_plus, d_minus, d_over, d_power, d_is_below, d_is_share, d_is_inner, d_is_volatility, d_check_share, d_odds_by, d_share_with, d_check_volatility, d_check_many, d_after_plates, d_is_pair, d_is_sample, d_wrong_sample, d_check_samples, d_low_end, d_high_end, d_is_end_below, d_is_empty, d_ends_by, d_fits_by, d_odd_ones, d_same_end, d_same_stretch, d_fits_samples, d_ends_of, d_at_odds, d_needless_samples, d__law_tap, d__law_drop, d__law_of, d__law_gcd, d__law_thin, d__law_frac, d__law_add, d__law_over, d__law_side, d__law_power, d__law_amount, d__law_inner, d__law_raise, d__law_roots, d__law_odds, d__law_bounds, d__law_ends_of, d__law_is_let, d__law_pair_of, d__law_probe, d__law_probes, d__law_odd_ones, d__law_is_needless, d__law_is_fit, d__law_right, d_law]
instance : Lib.Nd P := ⟨by decide +kernel⟩
instance h_is_whole : Lib.Has P d_is_whole := ⟨List.mem_of_getElem? (i := 0) rfl⟩
instance h_is_between : Lib.Has P d_is_between := ⟨List.mem_of_getElem? (i := 1) rfl⟩
instance h_are_wholes : Lib.Has P d_are_wholes := ⟨List.mem_of_getElem? (i := 2) rfl⟩
instance h_divisor_of : Lib.Has P d_divisor_of := ⟨List.mem_of_getElem? (i := 3) rfl⟩
instance h_lowest : Lib.Has P d_lowest := ⟨List.mem_of_getElem? (i := 4) rfl⟩
instance h_is_ratio : Lib.Has P d_is_ratio := ⟨List.mem_of_getElem? (i := 5) rfl⟩
instance h_ratio : Lib.Has P d_ratio := ⟨List.mem_of_getElem? (i := 6) rfl⟩
instance h_plus : Lib.Has P d_plus := ⟨List.mem_of_getElem? (i := 7) rfl⟩
instance h_minus : Lib.Has P d_minus := ⟨List.mem_of_getElem? (i := 8) rfl⟩
instance h_over : Lib.Has P d_over := ⟨List.mem_of_getElem? (i := 9) rfl⟩
instance h_power : Lib.Has P d_power := ⟨List.mem_of_getElem? (i := 10) rfl⟩
instance h_is_below : Lib.Has P d_is_below := ⟨List.mem_of_getElem? (i := 11) rfl⟩
instance h_is_share : Lib.Has P d_is_share := ⟨List.mem_of_getElem? (i := 12) rfl⟩
instance h_is_inner : Lib.Has P d_is_inner := ⟨List.mem_of_getElem? (i := 13) rfl⟩
instance h_is_volatility : Lib.Has P d_is_volatility := ⟨List.mem_of_getElem? (i := 14) rfl⟩
instance h_check_share : Lib.Has P d_check_share := ⟨List.mem_of_getElem? (i := 15) rfl⟩
instance h_odds_by : Lib.Has P d_odds_by := ⟨List.mem_of_getElem? (i := 16) rfl⟩
instance h_share_with : Lib.Has P d_share_with := ⟨List.mem_of_getElem? (i := 17) rfl⟩
instance h_check_volatility : Lib.Has P d_check_volatility := ⟨List.mem_of_getElem? (i := 18) rfl⟩
instance h_check_many : Lib.Has P d_check_many := ⟨List.mem_of_getElem? (i := 19) rfl⟩
instance h_after_plates : Lib.Has P d_after_plates := ⟨List.mem_of_getElem? (i := 20) rfl⟩
instance h_is_pair : Lib.Has P d_is_pair := ⟨List.mem_of_getElem? (i := 21) rfl⟩
instance h_is_sample : Lib.Has P d_is_sample := ⟨List.mem_of_getElem? (i := 22) rfl⟩
instance h_wrong_sample : Lib.Has P d_wrong_sample := ⟨List.mem_of_getElem? (i := 23) rfl⟩
instance h_check_samples : Lib.Has P d_check_samples := ⟨List.mem_of_getElem? (i := 24) rfl⟩
instance h_low_end : Lib.Has P d_low_end := ⟨List.mem_of_getElem? (i := 25) rfl⟩
instance h_high_end : Lib.Has P d_high_end := ⟨List.mem_of_getElem? (i := 26) rfl⟩
instance h_is_end_below : Lib.Has P d_is_end_below := ⟨List.mem_of_getElem? (i := 27) rfl⟩
instance h_is_empty : Lib.Has P d_is_empty := ⟨List.mem_of_getElem? (i := 28) rfl⟩
instance h_ends_by : Lib.Has P d_ends_by := ⟨List.mem_of_getElem? (i := 29) rfl⟩
instance h_fits_by : Lib.Has P d_fits_by := ⟨List.mem_of_getElem? (i := 30) rfl⟩
instance h_odd_ones : Lib.Has P d_odd_ones := ⟨List.mem_of_getElem? (i := 31) rfl⟩
instance h_same_end : Lib.Has P d_same_end := ⟨List.mem_of_getElem? (i := 32) rfl⟩
instance h_same_stretch : Lib.Has P d_same_stretch := ⟨List.mem_of_getElem? (i := 33) rfl⟩
instance h_fits_samples : Lib.Has P d_fits_samples := ⟨List.mem_of_getElem? (i := 34) rfl⟩
instance h_ends_of : Lib.Has P d_ends_of := ⟨List.mem_of_getElem? (i := 35) rfl⟩
instance h_at_odds : Lib.Has P d_at_odds := ⟨List.mem_of_getElem? (i := 36) rfl⟩
instance h_needless_samples : Lib.Has P d_needless_samples := ⟨List.mem_of_getElem? (i := 37) rfl⟩
instance h__law_tap : Lib.Has P d__law_tap := ⟨List.mem_of_getElem? (i := 38) rfl⟩
instance h__law_drop : Lib.Has P d__law_drop := ⟨List.mem_of_getElem? (i := 39) rfl⟩
instance h__law_of : Lib.Has P d__law_of := ⟨List.mem_of_getElem? (i := 40) rfl⟩
instance h__law_gcd : Lib.Has P d__law_gcd := ⟨List.mem_of_getElem? (i := 41) rfl⟩
instance h__law_thin : Lib.Has P d__law_thin := ⟨List.mem_of_getElem? (i := 42) rfl⟩
instance h__law_frac : Lib.Has P d__law_frac := ⟨List.mem_of_getElem? (i := 43) rfl⟩
instance h__law_add : Lib.Has P d__law_add := ⟨List.mem_of_getElem? (i := 44) rfl⟩
instance h__law_over : Lib.Has P d__law_over := ⟨List.mem_of_getElem? (i := 45) rfl⟩
instance h__law_side : Lib.Has P d__law_side := ⟨List.mem_of_getElem? (i := 46) rfl⟩
instance h__law_power : Lib.Has P d__law_power := ⟨List.mem_of_getElem? (i := 47) rfl⟩
instance h__law_amount : Lib.Has P d__law_amount := ⟨List.mem_of_getElem? (i := 48) rfl⟩
instance h__law_inner : Lib.Has P d__law_inner := ⟨List.mem_of_getElem? (i := 49) rfl⟩
instance h__law_raise : Lib.Has P d__law_raise := ⟨List.mem_of_getElem? (i := 50) rfl⟩
instance h__law_roots : Lib.Has P d__law_roots := ⟨List.mem_of_getElem? (i := 51) rfl⟩
instance h__law_odds : Lib.Has P d__law_odds := ⟨List.mem_of_getElem? (i := 52) rfl⟩
instance h__law_bounds : Lib.Has P d__law_bounds := ⟨List.mem_of_getElem? (i := 53) rfl⟩
instance h__law_ends_of : Lib.Has P d__law_ends_of := ⟨List.mem_of_getElem? (i := 54) rfl⟩
instance h__law_is_let : Lib.Has P d__law_is_let := ⟨List.mem_of_getElem? (i := 55) rfl⟩
instance h__law_pair_of : Lib.Has P d__law_pair_of := ⟨List.mem_of_getElem? (i := 56) rfl⟩
instance h__law_probe : Lib.Has P d__law_probe := ⟨List.mem_of_getElem? (i := 57) rfl⟩
instance h__law_probes : Lib.Has P d__law_probes := ⟨List.mem_of_getElem? (i := 58) rfl⟩
instance h__law_odd_ones : Lib.Has P d__law_odd_ones := ⟨List.mem_of_getElem? (i := 59) rfl⟩
instance h__law_is_needless : Lib.Has P d__law_is_needless := ⟨List.mem_of_getElem? (i := 60) rfl⟩
instance h__law_is_fit : Lib.Has P d__law_is_fit := ⟨List.mem_of_getElem? (i := 61) rfl⟩
instance h__law_right : Lib.Has P d__law_right := ⟨List.mem_of_getElem? (i := 62) rfl⟩
instance h_law : Lib.Has P d_law := ⟨List.mem_of_getElem? (i := 63) rfl⟩
def kn : Kn := ⟨[("MOST_BOILS", (.int 12)), ("MOST_PLATES", (.int 60)), ("MOST_SAMPLES", (.int 8)), ("ONE", (.tuple [(.int 1), (.int 1)]))], ["abs", "all", "bool", "divmod", "enumerate", "int", "isinstance", "len", "math.gcd", "range", "repr", "sum", "tuple"]⟩
theorem b_is_whole : Bnd "is_whole" ["value"] (top 8) := ⟨fun _ _ _ _ _ _ us hl => match us, hl with | [_], _ => rfl, fun _ _ _ _ _ _ us hl => match us, hl with | [_], _ => rfl⟩
theorem c_is_whole : ckF P kn d_is_whole (top 8) = true := by decide +kernel
theorem b_is_between : Bnd "is_between" ["value", "low", "high"] (top 9) := ⟨fun _ _ _ _ _ _ us hl => match us, hl with | [_, _, _], _ => rfl, fun _ _ _ _ _ _ us hl => match us, hl with | [_, _, _], _ => rfl⟩
theorem c_is_between : ckF P kn d_is_between (top 9) = true := by decide +kernel
theorem b_are_wholes : Bnd "are_wholes" ["value", "many"] (top 10) := ⟨fun _ _ _ _ _ _ us hl => match us, hl with | [_, _], _ => rfl, fun _ _ _ _ _ _ us hl => match us, hl with | [_, _], _ => rfl⟩
theorem c_are_wholes : ckF P kn d_are_wholes (top 10) = true := by decide +kernel
theorem b_divisor_of : Bnd "divisor_of" ["numbers"] (top 11) := ⟨fun _ _ _ _ _ _ us hl => match us, hl with | [_], _ => rfl, fun _ _ _ _ _ _ us hl => match us, hl with | [_], _ => rfl⟩
theorem c_divisor_of : ckF P kn d_divisor_of (top 11) = true := by decide +kernel
theorem b_lowest : Bnd "lowest" ["numbers"] (top 12) := ⟨fun _ _ _ _ _ _ us hl => match us, hl with | [_], _ => rfl, fun _ _ _ _ _ _ us hl => match us, hl with | [_], _ => rfl⟩
theorem c_lowest : ckF P kn d_lowest (top 12) = true := by decide +kernel
theorem b_is_ratio : Bnd "is_ratio" ["value"] (top 15) := ⟨fun _ _ _ _ _ _ us hl => match us, hl with | [_], _ => rfl, fun _ _ _ _ _ _ us hl => match us, hl with | [_], _ => rfl⟩
theorem c_is_ratio : ckF P kn d_is_ratio (top 15) = true := by decide +kernel
theorem b_ratio : Bnd "ratio" ["top", "low"] (top 16) := ⟨fun _ _ _ _ _ _ us hl => match us, hl with | [_, _], _ => rfl, fun _ _ _ _ _ _ us hl => match us, hl with | [_, _], _ => rfl⟩
theorem c_ratio : ckF P kn d_ratio (top 16) = true := by decide +kernel
theorem b_plus : Bnd "plus" ["one", "two"] (top 17) := ⟨fun _ _ _ _ _ _ us hl => match us, hl with | [_, _], _ => rfl, fun _ _ _ _ _ _ us hl => match us, hl with | [_, _], _ => rfl⟩
theorem c_plus : ckF P kn d_plus (top 17) = true := by decide +kernel
theorem b_minus : Bnd "minus" ["one", "two"] (top 18) := ⟨fun _ _ _ _ _ _ us hl => match us, hl with | [_, _], _ => rfl, fun _ _ _ _ _ _ us hl => match us, hl with | [_, _], _ => rfl⟩
theorem c_minus : ckF P kn d_minus (top 18) = true := by decide +kernel
theorem b_over : Bnd "over" ["one", "two"] (top 19) := ⟨fun _ _ _ _ _ _ us hl => match us, hl with | [_, _], _ => rfl, fun _ _ _ _ _ _ us hl => match us, hl with | [_, _], _ => rfl⟩
theorem c_over : ckF P kn d_over (top 19) = true := by decide +kernel
theorem b_power : Bnd "power" ["one", "many"] (top 20) := ⟨fun _ _ _ _ _ _ us hl => match us, hl with | [_, _], _ => rfl, fun _ _ _ _ _ _ us hl => match us, hl with | [_, _], _ => rfl⟩
theorem c_power : ckF P kn d_power (top 20) = true := by decide +kernel
theorem b_is_below : Bnd "is_below" ["one", "two"] (top 21) := ⟨fun _ _ _ _ _ _ us hl => match us, hl with | [_, _], _ => rfl, fun _ _ _ _ _ _ us hl => match us, hl with | [_, _], _ => rfl⟩
theorem c_is_below : ckF P kn d_is_below (top 21) = true := by decide +kernel
theorem b_is_share : Bnd "is_share" ["value"] (top 23) := ⟨fun _ _ _ _ _ _ us hl => match us, hl with | [_], _ => rfl, fun _ _ _ _ _ _ us hl => match us, hl with | [_], _ => rfl⟩
theorem c_is_share : ckF P kn d_is_share (top 23) = true := by decide +kernel
theorem b_is_inner : Bnd "is_inner" ["value"] (top 24) := ⟨fun _ _ _ _ _ _ us hl => match us, hl with | [_], _ => rfl, fun _ _ _ _ _ _ us hl => match us, hl with | [_], _ => rfl⟩
theorem c_is_inner : ckF P kn d_is_inner (top 24) = true := by decide +kernel
theorem b_is_volatility : Bnd "is_volatility" ["value"] (top 25) := ⟨fun _ _ _ _ _ _ us hl => match us, hl with | [_], _ => rfl, fun _ _ _ _ _ _ us hl => match us, hl with | [_], _ => rfl⟩
theorem c_is_volatility : ckF P kn d_is_volatility (top 25) = true := by decide +kernel
theorem b_check_share : Bnd "check_share" ["value"] (top 26) := ⟨fun _ _ _ _ _ _ us hl => match us, hl with | [_], _ => rfl, fun _ _ _ _ _ _ us hl => match us, hl with | [_], _ => rfl⟩
theorem c_check_share : ckF P kn d_check_share (top 26) = true := by decide +kernel
theorem b_odds_by : Bnd "odds_by" ["share"] (top 27) := ⟨fun _ _ _ _ _ _ us hl => match us, hl with | [_], _ => rfl, fun _ _ _ _ _ _ us hl => match us, hl with | [_], _ => rfl⟩
theorem c_odds_by : ckF P kn d_odds_by (top 27) = true := by decide +kernel
theorem b_share_with : Bnd "share_with" ["number"] (top 28) := ⟨fun _ _ _ _ _ _ us hl => match us, hl with | [_], _ => rfl, fun _ _ _ _ _ _ us hl => match us, hl with | [_], _ => rfl⟩
theorem c_share_with : ckF P kn d_share_with (top 28) = true := by decide +kernel
theorem b_check_volatility : Bnd "check_volatility" ["value"] (top 31) := ⟨fun _ _ _ _ _ _ us hl => match us, hl with | [_], _ => rfl, fun _ _ _ _ _ _ us hl => match us, hl with | [_], _ => rfl⟩
theorem c_check_volatility : ckF P kn d_check_volatility (top 31) = true := by decide +kernel
theorem b_check_many : Bnd "check_many" ["value"] (top 32) := ⟨fun _ _ _ _ _ _ us hl => match us, hl with | [_], _ => rfl, fun _ _ _ _ _ _ us hl => match us, hl with | [_], _ => rfl⟩
theorem c_check_many : ckF P kn d_check_many (top 32) = true := by decide +kernel
theorem b_after_plates : Bnd "after_plates" ["volatility", "share", "many"] (top 33) := ⟨fun _ _ _ _ _ _ us hl => match us, hl with | [_, _, _], _ => rfl, fun _ _ _ _ _ _ us hl => match us, hl with | [_, _, _], _ => rfl⟩
theorem c_after_plates : ckF P kn d_after_plates (top 33) = true := by decide +kernel
theorem b_is_pair : Bnd "is_pair" ["value"] (top 37) := ⟨fun _ _ _ _ _ _ us hl => match us, hl with | [_], _ => rfl, fun _ _ _ _ _ _ us hl => match us, hl with | [_], _ => rfl⟩
theorem c_is_pair : ckF P kn d_is_pair (top 37) = true := by decide +kernel
theorem b_is_sample : Bnd "is_sample" ["value"] (top 38) := ⟨fun _ _ _ _ _ _ us hl => match us, hl with | [_], _ => rfl, fun _ _ _ _ _ _ us hl => match us, hl with | [_], _ => rfl⟩
theorem c_is_sample : ckF P kn d_is_sample (top 38) = true := by decide +kernel
theorem b_wrong_sample : Bnd "wrong_sample" ["value"] (top 39) := ⟨fun _ _ _ _ _ _ us hl => match us, hl with | [_], _ => rfl, fun _ _ _ _ _ _ us hl => match us, hl with | [_], _ => rfl⟩
theorem c_wrong_sample : ckF P kn d_wrong_sample (top 39) = true := by decide +kernel
theorem b_check_samples : Bnd "check_samples" ["value"] (top 40) := ⟨fun _ _ _ _ _ _ us hl => match us, hl with | [_], _ => rfl, fun _ _ _ _ _ _ us hl => match us, hl with | [_], _ => rfl⟩
theorem c_check_samples : ckF P kn d_check_samples (top 40) = true := by decide +kernel
theorem b_low_end : Bnd "low_end" ["sample"] (top 41) := ⟨fun _ _ _ _ _ _ us hl => match us, hl with | [_], _ => rfl, fun _ _ _ _ _ _ us hl => match us, hl with | [_], _ => rfl⟩
theorem c_low_end : ckF P kn d_low_end (top 41) = true := by decide +kernel
theorem b_high_end : Bnd "high_end" ["sample"] (top 42) := ⟨fun _ _ _ _ _ _ us hl => match us, hl with | [_], _ => rfl, fun _ _ _ _ _ _ us hl => match us, hl with | [_], _ => rfl⟩
theorem c_high_end : ckF P kn d_high_end (top 42) = true := by decide +kernel
theorem b_is_end_below : Bnd "is_end_below" ["end", "other"] (top 43) := ⟨fun _ _ _ _ _ _ us hl => match us, hl with | [_, _], _ => rfl, fun _ _ _ _ _ _ us hl => match us, hl with | [_, _], _ => rfl⟩
theorem c_is_end_below : ckF P kn d_is_end_below (top 43) = true := by decide +kernel
theorem b_is_empty : Bnd "is_empty" ["low", "high"] (top 44) := ⟨fun _ _ _ _ _ _ us hl => match us, hl with | [_, _], _ => rfl, fun _ _ _ _ _ _ us hl => match us, hl with | [_, _], _ => rfl⟩
theorem c_is_empty : ckF P kn d_is_empty (top 44) = true := by decide +kernel
theorem b_ends_by : Bnd "ends_by" ["samples"] (top 45) := ⟨fun _ _ _ _ _ _ us hl => match us, hl with | [_], _ => rfl, fun _ _ _ _ _ _ us hl => match us, hl with | [_], _ => rfl⟩
theorem c_ends_by : ckF P kn d_ends_by (top 45) = true := by decide +kernel
theorem b_fits_by : Bnd "fits_by" ["sample", "volatility"] (top 46) := ⟨fun _ _ _ _ _ _ us hl => match us, hl with | [_, _], _ => rfl, fun _ _ _ _ _ _ us hl => match us, hl with | [_, _], _ => rfl⟩
theorem c_fits_by : ckF P kn d_fits_by (top 46) = true := by decide +kernel
theorem b_odd_ones : Bnd "odd_ones" ["samples"] (top 47) := ⟨fun _ _ _ _ _ _ us hl => match us, hl with | [_], _ => rfl, fun _ _ _ _ _ _ us hl => match us, hl with | [_], _ => rfl⟩
theorem c_odd_ones : ckF P kn d_odd_ones (top 47) = true := by decide +kernel
theorem b_same_end : Bnd "same_end" ["end", "other"] (top 48) := ⟨fun _ _ _ _ _ _ us hl => match us, hl with | [_, _], _ => rfl, fun _ _ _ _ _ _ us hl => match us, hl with | [_, _], _ => rfl⟩
theorem c_same_end : ckF P kn d_same_end (top 48) = true := by decide +kernel
theorem b_same_stretch : Bnd "same_stretch" ["samples", "others"] (top 49) := ⟨fun _ _ _ _ _ _ us hl => match us, hl with | [_, _], _ => rfl, fun _ _ _ _ _ _ us hl => match us, hl with | [_, _], _ => rfl⟩
theorem c_same_stretch : ckF P kn d_same_stretch (top 49) = true := by decide +kernel
theorem b_fits_samples : Bnd "fits_samples" ["samples", "volatility"] (top 50) := ⟨fun _ _ _ _ _ _ us hl => match us, hl with | [_, _], _ => rfl, fun _ _ _ _ _ _ us hl => match us, hl with | [_, _], _ => rfl⟩
theorem c_fits_samples : ckF P kn d_fits_samples (top 50) = true := by decide +kernel
theorem b_ends_of : Bnd "ends_of" ["samples"] (top 51) := ⟨fun _ _ _ _ _ _ us hl => match us, hl with | [_], _ => rfl, fun _ _ _ _ _ _ us hl => match us, hl with | [_], _ => rfl⟩
theorem c_ends_of : ckF P kn d_ends_of (top 51) = true := by decide +kernel
theorem b_at_odds : Bnd "at_odds" ["samples"] (top 52) := ⟨fun _ _ _ _ _ _ us hl => match us, hl with | [_], _ => rfl, fun _ _ _ _ _ _ us hl => match us, hl with | [_], _ => rfl⟩
theorem c_at_odds : ckF P kn d_at_odds (top 52) = true := by decide +kernel
theorem b_needless_samples : Bnd "needless_samples" ["samples"] (top 53) := ⟨fun _ _ _ _ _ _ us hl => match us, hl with | [_], _ => rfl, fun _ _ _ _ _ _ us hl => match us, hl with | [_], _ => rfl⟩
theorem c_needless_samples : ckF P kn d_needless_samples (top 53) = true := by decide +kernel
theorem b__law_tap : Bnd "_law_tap" ["script", "turn"] (top 55) := ⟨fun _ _ _ _ _ _ us hl => match us, hl with | [_, _], _ => rfl, fun _ _ _ _ _ _ us hl => match us, hl with | [_, _], _ => rfl⟩
theorem c__law_tap : ckF P kn d__law_tap (top 55) = true := by decide +kernel
theorem b__law_drop : Bnd "_law_drop" ["tap", "top"] (top 56) := ⟨fun _ _ _ _ _ _ us hl => match us, hl with | [_, _], _ => rfl, fun _ _ _ _ _ _ us hl => match us, hl with | [_, _], _ => rfl⟩
theorem c__law_drop : ckF P kn d__law_drop (top 56) = true := by decide +kernel
theorem b__law_of : Bnd "_law_of" ["tap", "some"] (top 57) := ⟨fun _ _ _ _ _ _ us hl => match us, hl with | [_, _], _ => rfl, fun _ _ _ _ _ _ us hl => match us, hl with | [_, _], _ => rfl⟩
theorem c__law_of : ckF P kn d__law_of (top 57) = true := by decide +kernel
theorem b__law_gcd : Bnd "_law_gcd" ["one", "two"] (top 58) := ⟨fun _ _ _ _ _ _ us hl => match us, hl with | [_, _], _ => rfl, fun _ _ _ _ _ _ us hl => match us, hl with | [_, _], _ => rfl⟩
theorem c__law_gcd : ckF P kn d__law_gcd (top 58) = true := by decide +kernel
theorem b__law_thin : Bnd "_law_thin" ["some"] (top 59) := ⟨fun _ _ _ _ _ _ us hl => match us, hl with | [_], _ => rfl, fun _ _ _ _ _ _ us hl => match us, hl with | [_], _ => rfl⟩
theorem c__law_thin : ckF P kn d__law_thin (top 59) = true := by decide +kernel
theorem b__law_frac : Bnd "_law_frac" ["n", "m"] (top 60) := ⟨fun _ _ _ _ _ _ us hl => match us, hl with | [_, _], _ => rfl, fun _ _ _ _ _ _ us hl => match us, hl with | [_, _], _ => rfl⟩
theorem c__law_frac : ckF P kn d__law_frac (top 60) = true := by decide +kernel
theorem b__law_add : Bnd "_law_add" ["one", "two"] (top 61) := ⟨fun _ _ _ _ _ _ us hl => match us, hl with | [_, _], _ => rfl, fun _ _ _ _ _ _ us hl => match us, hl with | [_, _], _ => rfl⟩
theorem c__law_add : ckF P kn d__law_add (top 61) = true := by decide +kernel
theorem b__law_over : Bnd "_law_over" ["one", "two"] (top 62) := ⟨fun _ _ _ _ _ _ us hl => match us, hl with | [_, _], _ => rfl, fun _ _ _ _ _ _ us hl => match us, hl with | [_, _], _ => rfl⟩
theorem c__law_over : ckF P kn d__law_over (top 62) = true := by decide +kernel
theorem b__law_side : Bnd "_law_side" ["one", "two"] (top 63) := ⟨fun _ _ _ _ _ _ us hl => match us, hl with | [_, _], _ => rfl, fun _ _ _ _ _ _ us hl => match us, hl with | [_, _], _ => rfl⟩
theorem c__law_side : ckF P kn d__law_side (top 63) = true := by decide +kernel
theorem b__law_power : Bnd "_law_power" ["one", "times"] (top 64) := ⟨fun _ _ _ _ _ _ us hl => match us, hl with | [_, _], _ => rfl, fun _ _ _ _ _ _ us hl => match us, hl with | [_, _], _ => rfl⟩
theorem c__law_power : ckF P kn d__law_power (top 64) = true := by decide +kernel
theorem b__law_amount : Bnd "_law_amount" ["tap"] (top 65) := ⟨fun _ _ _ _ _ _ us hl => match us, hl with | [_], _ => rfl, fun _ _ _ _ _ _ us hl => match us, hl with | [_], _ => rfl⟩
theorem c__law_amount : ckF P kn d__law_amount (top 65) = true := by decide +kernel
theorem b__law_inner : Bnd "_law_inner" ["tap"] (top 66) := ⟨fun _ _ _ _ _ _ us hl => match us, hl with | [_], _ => rfl, fun _ _ _ _ _ _ us hl => match us, hl with | [_], _ => rfl⟩
theorem c__law_inner : ckF P kn d__law_inner (top 66) = true := by decide +kernel
theorem b__law_raise : Bnd "_law_raise" ["one", "times"] (top 67) := ⟨fun _ _ _ _ _ _ us hl => match us, hl with | [_, _], _ => rfl, fun _ _ _ _ _ _ us hl => match us, hl with | [_, _], _ => rfl⟩
theorem c__law_raise : ckF P kn d__law_raise (top 67) = true := by decide +kernel
theorem b__law_roots : Bnd "_law_roots" ["one", "two"] (top 68) := ⟨fun _ _ _ _ _ _ us hl => match us, hl with | [_, _], _ => rfl, fun _ _ _ _ _ _ us hl => match us, hl with | [_, _], _ => rfl⟩
theorem c__law_roots : ckF P kn d__law_roots (top 68) = true := by decide +kernel
theorem b__law_odds : Bnd "_law_odds" ["one"] (top 69) := ⟨fun _ _ _ _ _ _ us hl => match us, hl with | [_], _ => rfl, fun _ _ _ _ _ _ us hl => match us, hl with | [_], _ => rfl⟩
theorem c__law_odds : ckF P kn d__law_odds (top 69) = true := by decide +kernel
theorem b__law_bounds : Bnd "_law_bounds" ["probe"] (top 70) := ⟨fun _ _ _ _ _ _ us hl => match us, hl with | [_], _ => rfl, fun _ _ _ _ _ _ us hl => match us, hl with | [_], _ => rfl⟩
theorem c__law_bounds : ckF P kn d__law_bounds (top 70) = true := by decide +kernel
theorem b__law_ends_of : Bnd "_law_ends_of" ["probes"] (top 71) := ⟨fun _ _ _ _ _ _ us hl => match us, hl with | [_], _ => rfl, fun _ _ _ _ _ _ us hl => match us, hl with | [_], _ => rfl⟩
theorem c__law_ends_of : ckF P kn d__law_ends_of (top 71) = true := by decide +kernel
theorem b__law_is_let : Bnd "_law_is_let" ["probes"] (top 72) := ⟨fun _ _ _ _ _ _ us hl => match us, hl with | [_], _ => rfl, fun _ _ _ _ _ _ us hl => match us, hl with | [_], _ => rfl⟩
theorem c__law_is_let : ckF P kn d__law_is_let (top 72) = true := by decide +kernel
theorem b__law_pair_of : Bnd "_law_pair_of" ["tap"] (top 73) := ⟨fun _ _ _ _ _ _ us hl => match us, hl with | [_], _ => rfl, fun _ _ _ _ _ _ us hl => match us, hl with | [_], _ => rfl⟩
theorem c__law_pair_of : ckF P kn d__law_pair_of (top 73) = true := by decide +kernel
theorem b__law_probe : Bnd "_law_probe" ["tap", "true2", "many2"] (top 74) := ⟨fun _ _ _ _ _ _ us hl => match us, hl with | [_, _, _], _ => rfl, fun _ _ _ _ _ _ us hl => match us, hl with | [_, _, _], _ => rfl⟩
theorem c__law_probe : ckF P kn d__law_probe (top 74) = true := by decide +kernel
theorem b__law_probes : Bnd "_law_probes" ["tap", "most2", "is_plain"] (top 75) := ⟨fun _ _ _ _ _ _ us hl => match us, hl with | [_, _, _], _ => rfl, fun _ _ _ _ _ _ us hl => match us, hl with | [_, _, _], _ => rfl⟩
theorem c__law_probes : ckF P kn d__law_probes (top 75) = true := by decide +kernel
theorem b__law_odd_ones : Bnd "_law_odd_ones" ["probes"] (top 76) := ⟨fun _ _ _ _ _ _ us hl => match us, hl with | [_], _ => rfl, fun _ _ _ _ _ _ us hl => match us, hl with | [_], _ => rfl⟩
theorem c__law_odd_ones : ckF P kn d__law_odd_ones (top 76) = true := by decide +kernel
theorem b__law_is_needless : Bnd "_law_is_needless" ["probes", "at"] (top 77) := ⟨fun _ _ _ _ _ _ us hl => match us, hl with | [_, _], _ => rfl, fun _ _ _ _ _ _ us hl => match us, hl with | [_, _], _ => rfl⟩
theorem c__law_is_needless : ckF P kn d__law_is_needless (top 77) = true := by decide +kernel
theorem b__law_is_fit : Bnd "_law_is_fit" ["probes", "each"] (top 78) := ⟨fun _ _ _ _ _ _ us hl => match us, hl with | [_, _], _ => rfl, fun _ _ _ _ _ _ us hl => match us, hl with | [_, _], _ => rfl⟩
theorem c__law_is_fit : ckF P kn d__law_is_fit (top 78) = true := by decide +kernel
theorem b__law_right : Bnd "_law_right" ["tap"] (top 79) := ⟨fun _ _ _ _ _ _ us hl => match us, hl with | [_], _ => rfl, fun _ _ _ _ _ _ us hl => match us, hl with | [_], _ => rfl⟩
theorem c__law_right : ckF P kn d__law_right (top 79) = true := by decide +kernel
theorem b_law : Bnd "law" ["script"] (top 80) := ⟨fun _ _ _ _ _ _ us hl => match us, hl with | [_], _ => rfl, fun _ _ _ _ _ _ us hl => match us, hl with | [_], _ => rfl⟩
theorem c_law : ckF P kn d_law (top 80) = true := by decide +kernel
end K91
--GEN /tmp/w/o/K91a.lean
namespace K91
open PySem DL L2 Lib
local macro_rules | `(tactic| walk_at "w1") => `(tactic| (first
  | (with_reducible refine R.lit ?_) | (with_reducible refine R.con ?_)
  | ((with_reducible refine' R.var ?g ?h); (case g => exact rfl))
  | ((with_reducible refine' R.varO ?g ?h); (case g => exact rfl))
  | (with_reducible refine R.op2 ?_) | (with_reducible refine R.cmp ?_) | (with_reducible refine R.idx ?_) | (with_reducible refine R.slc ?_) | (with_reducible refine R.oN ?_) | (with_reducible refine R.oS ?_)
  | (with_reducible refine R.tcmp ?_) | (with_reducible refine R.tnot ?_) | (with_reducible refine R.tand ?_) | (with_reducible refine R.tor ?_) | (with_reducible refine R.tcall ?_) | (with_reducible refine R.tbi ?_) | (with_reducible refine R.tisN ?_) | (with_reducible refine R.tnotN ?_) | (with_reducible refine R.tchain ?_) | (with_reducible refine R.tvar ?_) | (with_reducible refine R.tcallK ?_)
  | (with_reducible refine R.isN ?_) | (with_reducible refine R.notN ?_) | (with_reducible refine R.chain ?_) | (with_reducible refine R.neg ?_) | (with_reducible refine R.not ?_) | (with_reducible refine R.and ?_) | (with_reducible refine R.or ?_) | (with_reducible refine R.ife ?_)
  | (with_reducible refine R.tup ?_) | (with_reducible refine R.lst ?_) | (with_reducible refine R.call ?_) | (with_reducible refine R.callK ?_) | (with_reducible refine R.callIo ?_) | (with_reducible refine R.bi ?_) | (with_reducible refine R.comp ?_) | (with_reducible refine R.index ?_) | (with_reducible refine R.repL ?_) | (with_reducible refine R.listR ?_)
  | (with_reducible refine R.an ?_) | (with_reducible refine R.ac ?_) | (with_reducible refine R.en ?_) | (with_reducible refine R.ec ?_) | (with_reducible refine R.ed ?_) | (with_reducible refine R.eo ?_)
  | ((with_reducible refine' R.erd ?g ?h); (case g => exact rfl)) | ((with_reducible refine' R.ero ?g ?h); (case g => exact rfl))
  | ((with_reducible refine' R.w1 ?g ?h); (case g => exact rfl)) | ((with_reducible refine' R.w2 ?g ?g' ?h); (case g => exact rfl); (case g' => exact rfl)) | ((with_reducible refine' R.ws ?g ?h); (case g => exact rfl))
  | (with_reducible refine R.fval rfl ?_) | (with_reducible refine R.f_l ?_) | (with_reducible refine R.f_t ?_) | (with_reducible refine R.ival rfl ?_) | (with_reducible refine R.i_l ?_) | (with_reducible refine R.i_t ?_) | (with_reducible refine R.i_o ?_) | ((with_reducible refine' R.i_r ?g ?h); (case g => exact rfl))
  | (with_reducible refine R.irange ?_) | (with_reducible refine R.frange ?_) | (with_reducible refine R.ienum ?_) | (with_reducible refine R.fenum ?_) | (with_reducible refine R.izip ?_) | (with_reducible refine R.fzip ?_) | (with_reducible refine R.irev ?_) | (with_reducible refine R.frev ?_) | ((with_reducible refine' R.zip_at ?g ?g' ?h); (case g => exact rfl); (case g' => exact rfl)) | (with_reducible refine R.eq_i ?_) | (with_reducible refine R.ne_i ?_) | (with_reducible refine R.sretN ?_)
  | (with_reducible refine R.sn ?_) | (with_reducible refine R.sc ?_) | (with_reducible refine R.sasg ?_) | (with_reducible refine R.spar ?_) | (with_reducible refine R.sexpr ?_) | (with_reducible refine R.sapp ?_) | (with_reducible refine R.sext ?_) | (with_reducible refine R.sret ?_) | (with_reducible refine R.site ?_) | (with_reducible refine R.sfor ?_)
  | ((with_reducible refine R.nd_ ?n ?h); (case n => first | exact R.nio rfl rfl | exact R.nio rfl (DL.NoOw.ok (by assumption)))) | ((with_reducible refine R.no_ ?n ?h); (case n => first | exact R.nio rfl rfl | exact R.nio rfl (DL.NoOw.ok (by assumption)))) | ((with_reducible refine R.nr_ ?n ?h); (case n => first | exact R.nio rfl rfl | exact R.nio rfl (DL.NoOw.ok (by assumption))))
  | ((with_reducible refine' R.an_name ?n ?h); (case n => first | assumption | exact R.nio rfl rfl | exact R.nio rfl (DL.NoOw.ok (by assumption)))) | ((with_reducible refine' R.an_two ?n ?m ?h); (case n => first | assumption | exact R.nio rfl rfl | exact R.nio rfl (DL.NoOw.ok (by assumption))); (case m => first | assumption | exact R.nio rfl rfl | exact R.nio rfl (DL.NoOw.ok (by assumption)))) | ((with_reducible refine' R.an_three ?n ?m ?o ?h); (case n => first | assumption | exact R.nio rfl rfl | exact R.nio rfl (DL.NoOw.ok (by assumption))); (case m => first | assumption | exact R.nio rfl rfl | exact R.nio rfl (DL.NoOw.ok (by assumption))); (case o => first | assumption | exact R.nio rfl rfl | exact R.nio rfl (DL.NoOw.ok (by assumption)))) | (with_reducible refine R.tt rfl ?_) | (with_reducible refine R.tn ?_) | (with_reducible refine R.tc ?_) | (with_reducible refine R.subd ?_) | ((with_reducible refine' R.own_and ?g ?h); (case g => exact rfl)) | ((with_reducible refine' R.put_at ?g ?g' ?h); (case g => exact rfl); (case g' => exact rfl)) | ((with_reducible refine' R.io_ref ?g ?h); (case g => exact rfl)) | (with_reducible refine R.io_own ?_) | (with_reducible refine R.one_1 ?_) | (with_reducible refine R.setn ?_) | (with_reducible refine R.setd ?_) | (with_reducible refine R.seto ?_) | (with_reducible refine R.setr ?_)
  | ((with_reducible refine' R.find ?g ?h); (case g => exact rfl)) | ((with_reducible refine' R.fino ?g ?h); (case g => exact rfl)) | ((with_reducible refine' R.finr ?g ?g' ?h); (case g => exact rfl); (case g' => exact rfl)) | ((with_reducible refine' R.find' ?g ?g' ?h); (case g => exact rfl); (case g' => exact rfl))
  | (with_reducible refine R.ifT ?_) | (with_reducible refine R.ifF ?_)
  | ((with_reducible refine' R.pow_i ?g ?h); (case g => decide)) | ((with_reducible refine' R.mul_i ?g ?h); (case g => exact mulOk 60 60 (by omega) (by omega) (by decide))) | ((with_reducible refine' R.fdiv_i ?g ?h); (case g => exact divOk (by omega) (by omega))) | ((with_reducible refine' R.mod_i ?g ?h); (case g => omega))
  | (with_reducible refine R.add_i ?_) | (with_reducible refine R.sub_i ?_) | (with_reducible refine R.lt_i ?_) | (with_reducible refine R.le_i ?_) | (with_reducible refine R.gt_i ?_) | (with_reducible refine R.ge_i ?_)
  | ((with_reducible refine' R.idx_l ?g ?h); (case g => exact rfl)) | ((with_reducible refine' R.idx_t ?g ?h); (case g => exact rfl)) | (with_reducible refine R.slc_l ?_) | (with_reducible refine R.slc_t ?_)
  | (with_reducible refine R.len_l ?_) | (with_reducible refine R.len_t ?_) | (with_reducible refine R.tuple_l ?_) | (with_reducible refine R.tuple_t ?_) | (with_reducible refine R.list_l ?_) | (with_reducible refine R.list_t ?_) | (with_reducible refine R.abs_i ?_) | (with_reducible refine R.int_i ?_) | (with_reducible refine R.gcd_i ?_)
  | (with_reducible refine R.isint ?_) | (with_reducible refine R.isbool ?_) | (with_reducible refine R.istuple ?_) | (with_reducible refine R.islist ?_)
  | (with_reducible refine R.sum_is ?_) | (with_reducible refine R.all_bs ?_) | ((with_reducible refine R.any_bs ?_))); (try dsimp only [List.map, List.set, Int.reduceToNat, Bool.not_true, Bool.not_false, DL.restR, DL.gt, DL.wipeR]))
open Mx (leE topE lowE En)
theorem nat_pow_lt {x s : Nat} (h : x < 2 ^ s) (a : Nat) : x ^ a < 2 ^ (s * a + 1) := by
  have h1 := Nat.pow_le_pow_left (Nat.le_of_lt h) a
  rw [← Nat.pow_mul] at h1
  have := two_pow_succ' (s * a)
  have := Nat.pow_pos (n := s * a) (show 0 < 2 by omega)
  omega
theorem sz_pow {q : Rat} {s : Nat} (h : Sz s q) (a : Nat) : Sz (s * a + 1) (q ^ a) := by
  refine ⟨?_, ?_⟩
  · rw [Rat.num_pow, Int.natAbs_pow]; exact nat_pow_lt h.1 a
  · rw [Rat.den_pow]; exact nat_pow_lt h.2 a
theorem fr_pow (q : Rat) (a : Nat) : Lib.fr (q ^ a) = .tuple [.int (q.num ^ a), .int ((q.den : Int) ^ a)] := by
  simp only [Lib.fr, Rat.num_pow, Rat.den_pow, Int.natCast_pow]
theorem powOk {n : Int} {s a : Nat} (h : n.natAbs < 2 ^ s) (hs : s ≤ 300) (ha : a ≤ 60) : MulOk (n ^ a) n := by
  refine mulOk (300 * 60 + 1) 300 ?_ (Nat.lt_of_lt_of_le h (Nat.pow_le_pow_right (by omega) hs)) (by omega)
  rw [Int.natAbs_pow]
  have m : s * a ≤ 300 * 60 := Nat.mul_le_mul hs ha
  exact Nat.lt_of_lt_of_le (nat_pow_lt h a) (Nat.pow_le_pow_right (by omega) (by omega))
theorem w_power {k s j : Nat} {q : Rat} {Q E} (hq : Sz s q) (hs : s ≤ 300) (hj : j ≤ 60) (h : Q (.dat (Lib.fr (q ^ j))) []) : gam P (k + 1) "power" [.dat (Lib.fr q), .dat (.int j)] Q E := by
  refine R.opn Nd.nd (Has.mem (d := d_power)) rfl ?_
  simp only [d_power, List.map, List.replicate, List.length_cons, List.length_nil, List.cons_append, List.nil_append, Nat.reduceAdd, Nat.reduceSub]
  (repeat walk_at "w1")
  refine R.rng1 (by omega) (by unfold LenOk; rw [sizeLine_eq]; omega) ?_
  refine for_rng (n := j) (σ := Int × Int × Option Sl) (fun s => [some (.dat (Lib.fr q)), some (.dat (.int j)), s.2.2, some (.dat (.int s.1)), some (.dat (.int s.2.1))])
    (fun a s => s.1 = q.num ^ a ∧ s.2.1 = (q.den : Int) ^ a ∧ NoOw s.2.2) ?_ ?_ (1, 1, none) ⟨(Int.pow_zero _).symm, (Int.pow_zero _).symm, .n⟩
  · rintro a ⟨t, l, x⟩ nx ha ⟨e1, e2, n2⟩ hn
    simp only at e1 e2 n2
    refine R.an_name (R.nio rfl n2.ok) ?_
    simp only [Lib.fr]
    (repeat walk_at "w1")
    refine R.mul_i (by rw [e1]; exact powOk hq.1 hs (by omega)) ?_
    (repeat walk_at "w1")
    refine R.mul_i (by rw [e2]; exact powOk (by simpa using hq.2) hs (by omega)) ?_
    (repeat walk_at "w1")
    have := hn (_, _, some (.dat (.int a))) ⟨by rw [Int.pow_succ, ← e1], by rw [Int.pow_succ, ← e2], .d⟩
    simp only [Lib.fr] at this
    exact this
  · rintro ⟨t, l, x⟩ ⟨e1, e2, n2⟩
    simp only at e1 e2 n2
    subst e1 e2
    (repeat walk_at "w1")
    rw [fr_pow] at h
    exact h
theorem wl_power {k s j : Nat} {n : Int} {Q E} (hn : n.natAbs < 2 ^ s) (hs : s ≤ 300) (hj : j ≤ 60) (h : Q (.dat (.int (n ^ j))) []) : gam P (k + 1) "_law_power" [.dat (.int n), .dat (.int j)] Q E := by
  refine R.opn Nd.nd (Has.mem (d := d__law_power)) rfl ?_
  simp only [d__law_power, List.map, List.replicate, List.length_cons, List.length_nil, List.cons_append, List.nil_append, Nat.reduceAdd, Nat.reduceSub]
  (repeat walk_at "w1")
  refine R.rng1 (by omega) (by unfold LenOk; rw [sizeLine_eq]; omega) ?_
  refine for_rng (n := j) (σ := Int × Option Sl) (fun s => [some (.dat (.int n)), some (.dat (.int j)), some (.dat (.int s.1)), s.2])
    (fun a s => s.1 = n ^ a ∧ NoOw s.2) ?_ ?_ (1, none) ⟨(Int.pow_zero _).symm, .n⟩
  · rintro a ⟨t, x⟩ nx ha ⟨e1, n2⟩ hn'
    simp only at e1 n2
    refine R.an_name (R.nio rfl n2.ok) ?_
    (repeat walk_at "w1")
    refine R.mul_i (by rw [e1]; exact powOk hn hs (by omega)) ?_
    (repeat walk_at "w1")
    exact hn' (_, some (.dat (.int a))) ⟨by rw [Int.pow_succ, ← e1], .d⟩
  · rintro ⟨t, x⟩ ⟨e1, n2⟩
    simp only at e1 n2
    subst e1
    (repeat walk_at "w1")
    exact h
theorem wl_raise {k s j : Nat} {q : Rat} {Q E} (hq : Sz s q) (hs : s ≤ 300) (hj : j ≤ 60) (h : Q (.dat (Lib.fr (q ^ j))) []) : gam P (k + 2) "_law_raise" [.dat (Lib.fr q), .dat (.int j)] Q E := by
  refine R.opn Nd.nd (Has.mem (d := d__law_raise)) rfl ?_
  simp only [d__law_raise, List.map, List.replicate, List.length_cons, List.length_nil, List.cons_append, List.nil_append, Nat.reduceAdd, Nat.reduceSub]
  simp only [Lib.fr]
  (repeat walk_at "w1")
  refine wl_power hq.1 hs hj ?_
  (repeat walk_at "w1")
  refine wl_power (s := s) (by simpa using hq.2) hs hj ?_
  (repeat walk_at "w1")
  rw [fr_pow] at h
  exact h
/-! ### ends -/
def endD (e : Rat × Nat) : D := .tuple [Lib.fr e.1, .int e.2]
structure Eo (e : Rat × Nat) : Prop where
  en : En e
  sz : Sz 250 e.1
  le : e.2 ≤ 12
theorem lt_dec {a b : Rat} : decide (a < b) = !decide (b ≤ a) := by
  rw [Bool.eq_iff_iff]; simp [Rat.not_le]
theorem Eo.pw {e f : Rat × Nat} (h : Eo e) (g : Eo f) : Sz 3001 (e.1 ^ f.2) := by
  have m : 250 * f.2 ≤ 250 * 12 := Nat.mul_le_mul (by omega) g.le
  exact (sz_pow h.sz f.2).mono (by omega)
theorem w_is_end_below {k : Nat} {e f : Rat × Nat} {Q E} (he : Eo e) (hf : Eo f) (h : Q (.dat (.bool (!decide (leE f e)))) []) : gam P (k + 2) "is_end_below" [.dat (endD e), .dat (endD f)] Q E := by
  have := he.le
  have := hf.le
  refine R.opn Nd.nd (Has.mem (d := d_is_end_below)) rfl ?_
  simp only [d_is_end_below, List.map, List.replicate, List.length_cons, List.length_nil, List.cons_append, List.nil_append, Nat.reduceAdd, Nat.reduceSub]
  simp only [endD]
  (repeat walk_at "w1")
  refine w_power he.sz (by omega) (by omega) ?_
  (repeat walk_at "w1")
  refine w_power hf.sz (by omega) (by omega) ?_
  (repeat walk_at "w1")
  refine w_is_below (he.pw hf) (hf.pw he) (by omega) ?_
  (repeat walk_at "w1")
  rw [lt_dec]
  exact h
theorem side_pos {a b : Rat} : decide (0 < side a b) = !decide (a ≤ b) := by
  unfold side
  by_cases g : b < a
  · rw [if_pos g]; simp [Rat.not_le.mpr g]
  · rw [if_neg g]
    have : a ≤ b := Rat.not_lt.mp g
    split <;> simp [this]
theorem side_neg {a b : Rat} : decide (side a b < 0) = !decide (b ≤ a) := by
  unfold side
  by_cases g : b < a
  · rw [if_pos g]; simp [Rat.le_of_lt g]
  · rw [if_neg g]
    by_cases g2 : a < b
    · rw [if_pos g2]; simp [Rat.not_le.mpr g2]
    · rw [if_neg g2]; simp [Rat.not_lt.mp g2]
theorem side_le {a b : Rat} : decide (side a b ≤ 0) = decide (a ≤ b) := by
  unfold side
  by_cases g : b < a
  · rw [if_pos g]; simp [Rat.not_le.mpr g]
  · rw [if_neg g]
    have : a ≤ b := Rat.not_lt.mp g
    split <;> simp [this]
theorem side_ge {a b : Rat} : decide (0 ≤ side a b) = decide (b ≤ a) := by
  unfold side
  by_cases g : b < a
  · rw [if_pos g]; simp [Rat.le_of_lt g]
  · rw [if_neg g]
    by_cases g2 : a < b
    · rw [if_pos g2]; simp [Rat.not_le.mpr g2]
    · rw [if_neg g2]; simp [Rat.not_lt.mp g2]
theorem side_eq {a b : Rat} : decide (side a b = 0) = (decide (a ≤ b) && decide (b ≤ a)) := by
  unfold side
  by_cases g : b < a
  · rw [if_pos g]; simp [Rat.not_le.mpr g]
  · rw [if_neg g]
    by_cases g2 : a < b
    · rw [if_pos g2]; simp [Rat.not_le.mpr g2]
    · rw [if_neg g2]; simp [Rat.not_lt.mp g2, Rat.not_lt.mp g]
def rootsI (e f : Rat × Nat) : Int := side (e.1 ^ f.2) (f.1 ^ e.2)
theorem wl_roots {k : Nat} {e f : Rat × Nat} {Q E} (he : Sz 300 e.1) (he2 : e.2 ≤ 12) (hf : Sz 300 f.1) (hf2 : f.2 ≤ 12) (h : Q (.dat (.int (rootsI e f))) []) : gam P (k + 3) "_law_roots" [.dat (endD e), .dat (endD f)] Q E := by
  have pw : ∀ {e f : Rat × Nat}, Sz 300 e.1 → f.2 ≤ 12 → Sz 3601 (e.1 ^ f.2) := fun {e f} h g => by
    have m : 300 * f.2 ≤ 300 * 12 := Nat.mul_le_mul (by omega) g
    exact (sz_pow h f.2).mono (by omega)
  refine R.opn Nd.nd (Has.mem (d := d__law_roots)) rfl ?_
  simp only [d__law_roots, List.map, List.replicate, List.length_cons, List.length_nil, List.cons_append, List.nil_append, Nat.reduceAdd, Nat.reduceSub]
  simp only [endD]
  (repeat walk_at "w1")
  refine wl_raise he (by omega) (by omega) ?_
  (repeat walk_at "w1")
  refine wl_raise hf (by omega) (by omega) ?_
  (repeat walk_at "w1")
  refine wl_side (pw he hf2) (pw hf he2) (by omega) ?_
  (repeat walk_at "w1")
  exact h
theorem sz_1 : Sz 250 1 := sz_one.mono (by omega)
/-- nothing above 1 from the one to the other -/
def emp (e f : Rat × Nat) : Bool := !(decide (1 < f.1) && decide (leE e f))
theorem w_is_empty {k : Nat} {e f : Rat × Nat} {Q E} (he : Eo e) (hf : Eo f) (h : Q (.dat (.bool (emp e f))) []) : gam P (k + 3) "is_empty" [.dat (endD e), .dat (endD f)] Q E := by
  refine R.opn Nd.nd (Has.mem (d := d_is_empty)) rfl ?_
  simp only [d_is_empty, List.map, List.replicate, List.length_cons, List.length_nil, List.cons_append, List.nil_append, Nat.reduceAdd, Nat.reduceSub]
  simp only [endD]
  (repeat walk_at "w1")
  refine w_is_below (a := 1) sz_1 hf.sz (by omega) ?_
  (repeat walk_at "w1")
  unfold emp at h
  cases g : decide (1 < f.1) with
  | false =>
    rw [g] at h
    refine R.ifT ?_
    (repeat walk_at "w1")
    exact h
  | true =>
    rw [g] at h
    refine R.ifF ?_
    (repeat walk_at "w1")
    refine w_is_end_below hf he ?_
    (repeat walk_at "w1")
    exact h
/-! ### samples -/
structure Smp where
  m : Nat
  x1 : Rat
  x2 : Rat
  y1 : Rat
  y2 : Rat
instance : Inhabited Smp := ⟨⟨1, 0, 0, 0, 0⟩⟩
def smpD (s : Smp) : D := .tuple [.int s.m, .tuple [Lib.fr s.x1, Lib.fr s.x2], .tuple [Lib.fr s.y1, Lib.fr s.y2]]
structure In1 (x : Rat) : Prop where
  p : 0 < x
  l : x < 1
  sz : Sz 60 x
structure Ok (s : Smp) : Prop where
  m1 : 1 ≤ s.m
  m2 : s.m ≤ 12
  a1 : In1 s.x1
  a2 : In1 s.x2
  a3 : In1 s.y1
  a4 : In1 s.y2
  l1 : s.x1 ≤ s.x2
  l2 : s.y1 ≤ s.y2
def odds (x : Rat) : Rat := x / (1 - x)
def lo (s : Smp) : Rat × Nat := (odds s.y1 / odds s.x2, s.m)
def hi (s : Smp) : Rat × Nat := (odds s.y2 / odds s.x1, s.m)
theorem odds_sz {x : Rat} (h : In1 x) : Sz 122 (odds x) := sz_div h.sz (sz_sub sz_one h.sz) (by have := h.l; grind)
theorem div_pos' {a b : Rat} (ha : 0 < a) (hb : 0 < b) : 0 < a / b := by rw [Rat.div_def]; exact Rat.mul_pos ha (Rat.inv_pos.mpr hb)
theorem odds_pos {x : Rat} (h : In1 x) : 0 < odds x := div_pos' h.p (by have := h.l; grind)
theorem lo_ok {s : Smp} (h : Ok s) : Eo (lo s) := ⟨⟨div_pos' (odds_pos h.a3) (odds_pos h.a2), h.m1⟩, (sz_div (odds_sz h.a3) (odds_sz h.a2) (Rat.ne_of_gt (odds_pos h.a2))).mono (by omega), h.m2⟩
theorem hi_ok {s : Smp} (h : Ok s) : Eo (hi s) := ⟨⟨div_pos' (odds_pos h.a4) (odds_pos h.a1), h.m1⟩, (sz_div (odds_sz h.a4) (odds_sz h.a1) (Rat.ne_of_gt (odds_pos h.a1))).mono (by omega), h.m2⟩
theorem w_odds_by {k : Nat} {x : Rat} {Q E} (hx : In1 x) (h : Q (.dat (Lib.fr (odds x))) []) : gam P (k + 5) "odds_by" [.dat (Lib.fr x)] Q E := by
  have := hx.l
  refine R.opn Nd.nd (Has.mem (d := d_odds_by)) rfl ?_
  simp only [d_odds_by, List.map, List.replicate, List.length_cons, List.length_nil, List.cons_append, List.nil_append, Nat.reduceAdd, Nat.reduceSub]
  (repeat walk_at "w1")
  refine w_minus (a := 1) sz_one hx.sz (by omega) ?_
  (repeat walk_at "w1")
  refine w_overG hx.sz (sz_sub sz_one hx.sz) (by omega) (by grind) ?_
  (repeat walk_at "w1")
  exact h
theorem odds_mk {x : Rat} (hx : In1 x) : mkRat x.num ((x.den : Int) - x.num).toNat = odds x := by
  have hl := hx.l
  have le := le1_num (Rat.le_of_lt hl)
  have dn := Mx.cast_ne (show (x.den : Int) ≠ 0 by have := x.den_pos; omega)
  have ep : x = (x.num : Rat) / ((x.den : Int) : Rat) := ((Rat.mkRat_eq_div x.num x.den).symm.trans (Rat.mkRat_self x)).symm
  have ed : ((((x.den : Int) - x.num).toNat : Nat) : Rat) = ((x.den : Int) : Rat) - (x.num : Rat) := by
    have : ((((x.den : Int) - x.num).toNat : Nat) : Int) = (x.den : Int) - x.num := Int.toNat_of_nonneg (by omega)
    have h2 : (((((x.den : Int) - x.num).toNat : Nat) : Int) : Rat) = (((x.den : Int) - x.num : Int) : Rat) := by rw [this]
    rw [Rat.intCast_sub] at h2
    exact h2
  rw [Rat.mkRat_eq_div, ed]
  unfold odds
  have nz : ((x.den : Int) : Rat) - (x.num : Rat) ≠ 0 := by
    intro z
    have : ((x.den : Int) : Rat) = (x.num : Rat) := by grind
    rw [this] at ep dn
    have : x = 1 := by rw [ep]; grind
    grind
  have e1 : 1 - x = (((x.den : Int) : Rat) - (x.num : Rat)) / ((x.den : Int) : Rat) := by
    conv => lhs; rw [ep]
    clear ep ed
    generalize ((x.den : Int) : Rat) = d at *
    generalize (x.num : Rat) = n at *
    grind
  rw [e1]
  have key : ∀ n d : Rat, d ≠ 0 → d - n ≠ 0 → n / (d - n) = (n / d) / ((d - n) / d) := fun n d h1 h2 => by grind
  rw [key _ _ dn nz]
  exact (congrArg (fun z => z / _) ep).symm
theorem wl_odds {k : Nat} {x : Rat} {Q E} (hx : In1 x) (h : Q (.dat (Lib.fr (odds x))) []) : gam P (k + 4) "_law_odds" [.dat (Lib.fr x)] Q E := by
  have le := le1_num (Rat.le_of_lt hx.l)
  have ne : x.num ≠ (x.den : Int) := fun z => by
    have ep : x = (x.num : Rat) / ((x.den : Int) : Rat) := ((Rat.mkRat_eq_div x.num x.den).symm.trans (Rat.mkRat_self x)).symm
    have dn := Mx.cast_ne (show (x.den : Int) ≠ 0 by have := x.den_pos; omega)
    rw [z] at ep
    have := hx.l
    have : x = 1 := by rw [ep]; grind
    grind
  have n0 := Rat.num_nonneg.mpr (Rat.le_of_lt hx.p)
  have e : (x.den : Int) - x.num = ((((x.den : Int) - x.num).toNat : Nat) : Int) := (Int.toNat_of_nonneg (by omega)).symm
  have d6 := hx.sz.2
  refine R.opn Nd.nd (Has.mem (d := d__law_odds)) rfl ?_
  simp only [d__law_odds, List.map, List.replicate, List.length_cons, List.length_nil, List.cons_append, List.nil_append, Nat.reduceAdd, Nat.reduceSub]
  simp only [Lib.fr]
  (repeat walk_at "w1")
  rw [e]
  refine w_frac (by omega) (Nat.lt_of_lt_of_le (m := 2 ^ 60) (by omega) (Nat.pow_le_pow_right (by omega) (by omega))) ?_
  (repeat walk_at "w1")
  rw [odds_mk hx]
  exact h
theorem w_low_end {k : Nat} {s : Smp} {Q E} (hs : Ok s) (h : Q (.dat (endD (lo s))) []) : gam P (k + 6) "low_end" [.dat (smpD s)] Q E := by
  refine R.opn Nd.nd (Has.mem (d := d_low_end)) rfl ?_
  simp only [d_low_end, List.map, List.replicate, List.length_cons, List.length_nil, List.cons_append, List.nil_append, Nat.reduceAdd, Nat.reduceSub]
  simp only [smpD]
  (repeat walk_at "w1")
  refine w_odds_by hs.a3 ?_
  (repeat walk_at "w1")
  refine w_odds_by hs.a2 ?_
  (repeat walk_at "w1")
  refine w_overG (odds_sz hs.a3) (odds_sz hs.a2) (by omega) (Rat.ne_of_gt (odds_pos hs.a2)) ?_
  (repeat walk_at "w1")
  exact h
theorem w_high_end {k : Nat} {s : Smp} {Q E} (hs : Ok s) (h : Q (.dat (endD (hi s))) []) : gam P (k + 6) "high_end" [.dat (smpD s)] Q E := by
  refine R.opn Nd.nd (Has.mem (d := d_high_end)) rfl ?_
  simp only [d_high_end, List.map, List.replicate, List.length_cons, List.length_nil, List.cons_append, List.nil_append, Nat.reduceAdd, Nat.reduceSub]
  simp only [smpD]
  (repeat walk_at "w1")
  refine w_odds_by hs.a4 ?_
  (repeat walk_at "w1")
  refine w_odds_by hs.a1 ?_
  (repeat walk_at "w1")
  refine w_overG (odds_sz hs.a4) (odds_sz hs.a1) (by omega) (Rat.ne_of_gt (odds_pos hs.a1)) ?_
  (repeat walk_at "w1")
  exact h
theorem wl_bounds {k : Nat} {s : Smp} {Q E} (hs : Ok s) (h : Q (.dat (.tuple [endD (lo s), endD (hi s)])) []) : gam P (k + 5) "_law_bounds" [.dat (smpD s)] Q E := by
  refine R.opn Nd.nd (Has.mem (d := d__law_bounds)) rfl ?_
  simp only [d__law_bounds, List.map, List.replicate, List.length_cons, List.length_nil, List.cons_append, List.nil_append, Nat.reduceAdd, Nat.reduceSub]
  simp only [smpD]
  (repeat walk_at "w1")
  refine wl_odds hs.a3 ?_
  (repeat walk_at "w1")
  refine wl_odds hs.a2 ?_
  (repeat walk_at "w1")
  refine wl_over (odds_sz hs.a3) (odds_sz hs.a2) (by omega) (Rat.ne_of_gt (odds_pos hs.a2)) ?_
  (repeat walk_at "w1")
  refine wl_odds hs.a4 ?_
  (repeat walk_at "w1")
  refine wl_odds hs.a1 ?_
  (repeat walk_at "w1")
  refine wl_over (odds_sz hs.a4) (odds_sz hs.a1) (by omega) (Rat.ne_of_gt (odds_pos hs.a1)) ?_
  (repeat walk_at "w1")
  exact h
end K91
--GEN /tmp/w/o/K91a.lean
namespace K91
open PySem DL L2 Lib
local macro_rules | `(tactic| walk_at "w1") => `(tactic| (first
  | (with_reducible refine R.lit ?_) | (with_reducible refine R.con ?_)
  | ((with_reducible refine' R.var ?g ?h); (case g => exact rfl))
  | ((with_reducible refine' R.varO ?g ?h); (case g => exact rfl))
  | (with_reducible refine R.op2 ?_) | (with_reducible refine R.cmp ?_) | (with_reducible refine R.idx ?_) | (with_reducible refine R.slc ?_) | (with_reducible refine R.oN ?_) | (with_reducible refine R.oS ?_)
  | (with_reducible refine R.tcmp ?_) | (with_reducible refine R.tnot ?_) | (with_reducible refine R.tand ?_) | (with_reducible refine R.tor ?_) | (with_reducible refine R.tcall ?_) | (with_reducible refine R.tbi ?_) | (with_reducible refine R.tisN ?_) | (with_reducible refine R.tnotN ?_) | (with_reducible refine R.tchain ?_) | (with_reducible refine R.tvar ?_) | (with_reducible refine R.tcallK ?_)
  | (with_reducible refine R.isN ?_) | (with_reducible refine R.notN ?_) | (with_reducible refine R.chain ?_) | (with_reducible refine R.neg ?_) | (with_reducible refine R.not ?_) | (with_reducible refine R.and ?_) | (with_reducible refine R.or ?_) | (with_reducible refine R.ife ?_)
  | (with_reducible refine R.tup ?_) | (with_reducible refine R.lst ?_) | (with_reducible refine R.call ?_) | (with_reducible refine R.callK ?_) | (with_reducible refine R.callIo ?_) | (with_reducible refine R.bi ?_) | (with_reducible refine R.comp ?_) | (with_reducible refine R.index ?_) | (with_reducible refine R.repL ?_) | (with_reducible refine R.listR ?_)
  | (with_reducible refine R.an ?_) | (with_reducible refine R.ac ?_) | (with_reducible refine R.en ?_) | (with_reducible refine R.ec ?_) | (with_reducible refine R.ed ?_) | (with_reducible refine R.eo ?_)
  | ((with_reducible refine' R.erd ?g ?h); (case g => exact rfl)) | ((with_reducible refine' R.ero ?g ?h); (case g => exact rfl))
  | ((with_reducible refine' R.w1 ?g ?h); (case g => exact rfl)) | ((with_reducible refine' R.w2 ?g ?g' ?h); (case g => exact rfl); (case g' => exact rfl)) | ((with_reducible refine' R.ws ?g ?h); (case g => exact rfl))
  | (with_reducible refine R.fval rfl ?_) | (with_reducible refine R.f_l ?_) | (with_reducible refine R.f_t ?_) | (with_reducible refine R.ival rfl ?_) | (with_reducible refine R.i_l ?_) | (with_reducible refine R.i_t ?_) | (with_reducible refine R.i_o ?_) | ((with_reducible refine' R.i_r ?g ?h); (case g => exact rfl))
  | (with_reducible refine R.irange ?_) | (with_reducible refine R.frange ?_) | (with_reducible refine R.ienum ?_) | (with_reducible refine R.fenum ?_) | (with_reducible refine R.izip ?_) | (with_reducible refine R.fzip ?_) | (with_reducible refine R.irev ?_) | (with_reducible refine R.frev ?_) | ((with_reducible refine' R.zip_at ?g ?g' ?h); (case g => exact rfl); (case g' => exact rfl)) | (with_reducible refine R.eq_i ?_) | (with_reducible refine R.ne_i ?_) | (with_reducible refine R.sretN ?_)
  | (with_reducible refine R.sn ?_) | (with_reducible refine R.sc ?_) | (with_reducible refine R.sasg ?_) | (with_reducible refine R.spar ?_) | (with_reducible refine R.sexpr ?_) | (with_reducible refine R.sapp ?_) | (with_reducible refine R.sext ?_) | (with_reducible refine R.sret ?_) | (with_reducible refine R.site ?_) | (with_reducible refine R.sfor ?_)
  | ((with_reducible refine R.nd_ ?n ?h); (case n => first | exact R.nio rfl rfl | exact R.nio rfl (DL.NoOw.ok (by assumption)))) | ((with_reducible refine R.no_ ?n ?h); (case n => first | exact R.nio rfl rfl | exact R.nio rfl (DL.NoOw.ok (by assumption)))) | ((with_reducible refine R.nr_ ?n ?h); (case n => first | exact R.nio rfl rfl | exact R.nio rfl (DL.NoOw.ok (by assumption))))
  | ((with_reducible refine' R.an_name ?n ?h); (case n => first | assumption | exact R.nio rfl rfl | exact R.nio rfl (DL.NoOw.ok (by assumption)))) | ((with_reducible refine' R.an_two ?n ?m ?h); (case n => first | assumption | exact R.nio rfl rfl | exact R.nio rfl (DL.NoOw.ok (by assumption))); (case m => first | assumption | exact R.nio rfl rfl | exact R.nio rfl (DL.NoOw.ok (by assumption)))) | ((with_reducible refine' R.an_three ?n ?m ?o ?h); (case n => first | assumption | exact R.nio rfl rfl | exact R.nio rfl (DL.NoOw.ok (by assumption))); (case m => first | assumption | exact R.nio rfl rfl | exact R.nio rfl (DL.NoOw.ok (by assumption))); (case o => first | assumption | exact R.nio rfl rfl | exact R.nio rfl (DL.NoOw.ok (by assumption)))) | (with_reducible refine R.tt rfl ?_) | (with_reducible refine R.tn ?_) | (with_reducible refine R.tc ?_) | (with_reducible refine R.subd ?_) | ((with_reducible refine' R.own_and ?g ?h); (case g => exact rfl)) | ((with_reducible refine' R.put_at ?g ?g' ?h); (case g => exact rfl); (case g' => exact rfl)) | ((with_reducible refine' R.io_ref ?g ?h); (case g => exact rfl)) | (with_reducible refine R.io_own ?_) | (with_reducible refine R.one_1 ?_) | (with_reducible refine R.setn ?_) | (with_reducible refine R.setd ?_) | (with_reducible refine R.seto ?_) | (with_reducible refine R.setr ?_)
  | ((with_reducible refine' R.find ?g ?h); (case g => exact rfl)) | ((with_reducible refine' R.fino ?g ?h); (case g => exact rfl)) | ((with_reducible refine' R.finr ?g ?g' ?h); (case g => exact rfl); (case g' => exact rfl)) | ((with_reducible refine' R.find' ?g ?g' ?h); (case g => exact rfl); (case g' => exact rfl))
  | (with_reducible refine R.ifT ?_) | (with_reducible refine R.ifF ?_)
  | ((with_reducible refine' R.pow_i ?g ?h); (case g => decide)) | ((with_reducible refine' R.mul_i ?g ?h); (case g => exact mulOk 60 60 (by omega) (by omega) (by decide))) | ((with_reducible refine' R.fdiv_i ?g ?h); (case g => exact divOk (by omega) (by omega))) | ((with_reducible refine' R.mod_i ?g ?h); (case g => omega))
  | (with_reducible refine R.add_i ?_) | (with_reducible refine R.sub_i ?_) | (with_reducible refine R.lt_i ?_) | (with_reducible refine R.le_i ?_) | (with_reducible refine R.gt_i ?_) | (with_reducible refine R.ge_i ?_)
  | ((with_reducible refine' R.idx_l ?g ?h); (case g => exact rfl)) | ((with_reducible refine' R.idx_t ?g ?h); (case g => exact rfl)) | (with_reducible refine R.slc_l ?_) | (with_reducible refine R.slc_t ?_)
  | (with_reducible refine R.len_l ?_) | (with_reducible refine R.len_t ?_) | (with_reducible refine R.tuple_l ?_) | (with_reducible refine R.tuple_t ?_) | (with_reducible refine R.list_l ?_) | (with_reducible refine R.list_t ?_) | (with_reducible refine R.abs_i ?_) | (with_reducible refine R.int_i ?_) | (with_reducible refine R.gcd_i ?_)
  | (with_reducible refine R.isint ?_) | (with_reducible refine R.isbool ?_) | (with_reducible refine R.istuple ?_) | (with_reducible refine R.islist ?_)
  | (with_reducible refine R.sum_is ?_) | (with_reducible refine R.all_bs ?_) | ((with_reducible refine R.any_bs ?_))); (try dsimp only [List.map, List.set, Int.reduceToNat, Bool.not_true, Bool.not_false, DL.restR, DL.gt, DL.wipeR]))
open Mx (leE topE lowE En leE_trans leE_refl leE_total)
def tops : List Smp → Rat × Nat
  | [] => (1, 1)
  | s :: r => topE (lo s) (r.map lo)
def lows : List Smp → Rat × Nat
  | [] => (1, 1)
  | s :: r => lowE (hi s) (r.map hi)
def letB (l : List Smp) : Bool := decide (1 < (lows l).1) && decide (leE (tops l) (lows l))
theorem letB_emp {l : List Smp} : emp (tops l) (lows l) = !letB l := rfl
def Oks (l : List Smp) : Prop := l ≠ [] ∧ ∀ s ∈ l, Ok s
theorem tops_mem {l : List Smp} (h : l ≠ []) : ∃ s ∈ l, tops l = lo s := by
  obtain ⟨s, r, rfl⟩ := List.exists_cons_of_ne_nil h
  rcases Mx.topE_mem (r.map lo) (lo s) with e | e
  · exact ⟨s, List.mem_cons_self, e⟩
  · obtain ⟨t, ht, e⟩ := List.mem_map.mp e
    exact ⟨t, List.mem_cons_of_mem _ ht, e.symm⟩
theorem lows_mem {l : List Smp} (h : l ≠ []) : ∃ s ∈ l, lows l = hi s := by
  obtain ⟨s, r, rfl⟩ := List.exists_cons_of_ne_nil h
  rcases Mx.lowE_mem (r.map hi) (hi s) with e | e
  · exact ⟨s, List.mem_cons_self, e⟩
  · obtain ⟨t, ht, e⟩ := List.mem_map.mp e
    exact ⟨t, List.mem_cons_of_mem _ ht, e.symm⟩
theorem tops_ok {l : List Smp} (h : Oks l) : Eo (tops l) := by
  obtain ⟨s, hs, e⟩ := tops_mem h.1
  rw [e]; exact lo_ok (h.2 s hs)
theorem lows_ok {l : List Smp} (h : Oks l) : Eo (lows l) := by
  obtain ⟨s, hs, e⟩ := lows_mem h.1
  rw [e]; exact hi_ok (h.2 s hs)
theorem tops_ge {l : List Smp} (h : Oks l) : ∀ s ∈ l, leE (lo s) (tops l) := by
  obtain ⟨s, r, rfl⟩ := List.exists_cons_of_ne_nil h.1
  obtain ⟨a, b⟩ := Mx.topE_ge (e := lo s) (l := r.map lo) (lo_ok (h.2 s List.mem_cons_self)).en fun f hf => by
    obtain ⟨t, ht, rfl⟩ := List.mem_map.mp hf
    exact (lo_ok (h.2 t (List.mem_cons_of_mem _ ht))).en
  intro t ht
  rcases List.mem_cons.mp ht with rfl | ht
  · exact a
  · exact b _ (List.mem_map_of_mem ht)
theorem lows_le {l : List Smp} (h : Oks l) : ∀ s ∈ l, leE (lows l) (hi s) := by
  obtain ⟨s, r, rfl⟩ := List.exists_cons_of_ne_nil h.1
  obtain ⟨a, b⟩ := Mx.lowE_le (e := hi s) (l := r.map hi) (hi_ok (h.2 s List.mem_cons_self)).en fun f hf => by
    obtain ⟨t, ht, rfl⟩ := List.mem_map.mp hf
    exact (hi_ok (h.2 t (List.mem_cons_of_mem _ ht))).en
  intro t ht
  rcases List.mem_cons.mp ht with rfl | ht
  · exact a
  · exact b _ (List.mem_map_of_mem ht)
theorem en1 : En (1, 1) := ⟨by decide, by decide⟩
theorem gt1 {e : Rat × Nat} : 1 < e.1 ↔ ¬ leE e (1, 1) := by
  unfold leE
  rw [Mx.pow_one', Mx.one_pow', Rat.not_le]
/-- some of them tell the same ends -/
theorem let_of {l k : List Smp} (hl : Oks l) (hk : Oks k) (ht : ∃ s ∈ k, tops l = lo s) (hh : ∃ s ∈ k, lows l = hi s) (h : letB k = true) : letB l = true := by
  obtain ⟨s, hs, es⟩ := ht
  obtain ⟨t, ht, et⟩ := hh
  unfold letB at h ⊢
  rw [Bool.and_eq_true, decide_eq_true_iff, decide_eq_true_iff] at h ⊢
  have a := tops_ge hk s hs
  have b := lows_le hk t ht
  have okt := (tops_ok hk).en
  have okl := (lows_ok hk).en
  rw [es, et]
  have o1 := (lo_ok (hk.2 s hs)).en
  have o2 := (hi_ok (hk.2 t ht)).en
  exact ⟨gt1.mpr fun z => gt1.mp h.1 (leE_trans okl o2 en1 b z), leE_trans o1 okt o2 a (leE_trans okt okl o2 h.2 b)⟩
theorem let_sub {l k : List Smp} (hl : Oks l) (hk : Oks k) (sub : ∀ s ∈ k, s ∈ l) (h : letB l = true) : letB k = true := by
  obtain ⟨s, hs, es⟩ := tops_mem hk.1
  obtain ⟨t, ht, et⟩ := lows_mem hk.1
  exact let_of hk hl ⟨s, sub s hs, es⟩ ⟨t, sub t ht, et⟩ h
/-- one by its place -/
def nth (l : List Smp) (i : Nat) : Smp := l.getD i default
theorem nth_mem {l : List Smp} {i : Nat} (h : i < l.length) : nth l i ∈ l := by
  unfold nth
  rw [List.getD_eq_getElem?_getD, List.getElem?_eq_getElem h]
  exact List.getElem_mem _
theorem mem_nth {l : List Smp} {s : Smp} (h : s ∈ l) : ∃ i, i < l.length ∧ nth l i = s := by
  obtain ⟨i, hi, e⟩ := List.getElem_of_mem h
  exact ⟨i, hi, by unfold nth; rw [List.getD_eq_getElem?_getD, List.getElem?_eq_getElem hi]; exact e⟩
def singles (l : List Smp) : List Nat := (List.range l.length).filter fun k => !letB [nth l k]
def prs (l : List Smp) (ks : List Nat) : List (Nat × Nat) := ks.flatMap fun k => ((List.range (l.length - (k + 1))).filter fun j => !letB [nth l k, nth l (k + 1 + j)]).map fun j => (k, k + 1 + j)
theorem oks1 {l : List Smp} (h : Oks l) {i : Nat} (hi : i < l.length) : Oks [nth l i] := ⟨by simp, fun s hs => by rw [List.mem_singleton.mp hs]; exact h.2 _ (nth_mem hi)⟩
theorem oks2 {l : List Smp} (h : Oks l) {i j : Nat} (hi : i < l.length) (hj : j < l.length) : Oks [nth l i, nth l j] := ⟨by simp, fun s hs => by
  simp only [List.mem_cons, List.not_mem_nil, or_false] at hs
  rcases hs with rfl | rfl
  · exact h.2 _ (nth_mem hi)
  · exact h.2 _ (nth_mem hj)⟩
theorem odd_none {l : List Smp} (h : Oks l) (g : letB l = true) : singles l = [] ∧ prs l (List.range l.length) = [] := by
  constructor
  · unfold singles
    rw [List.filter_eq_nil_iff]
    intro k hk
    have hk := List.mem_range.mp hk
    rw [let_sub h (oks1 h hk) (fun s hs => by rw [List.mem_singleton.mp hs]; exact nth_mem hk) g]
    simp
  · unfold prs
    rw [List.flatMap_eq_nil_iff]
    intro k hk
    have hk := List.mem_range.mp hk
    rw [List.map_eq_nil_iff, List.filter_eq_nil_iff]
    intro j hj
    have hj := List.mem_range.mp hj
    have hj' : k + 1 + j < l.length := by omega
    rw [let_sub h (oks2 h hk hj') (fun s hs => by
      simp only [List.mem_cons, List.not_mem_nil, or_false] at hs
      rcases hs with rfl | rfl
      · exact nth_mem hk
      · exact nth_mem hj') g]
    simp
theorem odd_some {l : List Smp} (h : Oks l) (g : letB l = false) (s0 : singles l = []) (p0 : prs l (List.range l.length) = []) : False := by
  obtain ⟨s, hs, es⟩ := tops_mem h.1
  obtain ⟨t, ht, et⟩ := lows_mem h.1
  obtain ⟨i, hi, rfl⟩ := mem_nth hs
  obtain ⟨j, hj, rfl⟩ := mem_nth ht
  have no : ∀ k : List Smp, Oks k → nth l i ∈ k → nth l j ∈ k → letB k = true → False := fun k hk a b z => by
    have := let_of h hk ⟨_, a, es⟩ ⟨_, b, et⟩ z
    rw [g] at this; cases this
  have pair : ∀ a b, a < b → b < l.length → letB [nth l a, nth l b] = true := fun a b hab hb => by
    have h1 := (List.flatMap_eq_nil_iff.mp p0) a (List.mem_range.mpr (by omega))
    rw [List.map_eq_nil_iff, List.filter_eq_nil_iff] at h1
    have h2 := h1 (b - (a + 1)) (List.mem_range.mpr (by omega))
    rw [show a + 1 + (b - (a + 1)) = b by omega] at h2
    simpa using h2
  rcases Nat.lt_trichotomy i j with q | q | q
  · exact no _ (oks2 h hi hj) (by simp) (by simp) (pair i j q hj)
  · subst q
    unfold singles at s0
    rw [List.filter_eq_nil_iff] at s0
    have := s0 i (List.mem_range.mpr hi)
    exact no _ (oks1 h hi) (by simp) (by simp) (by simpa using this)
  · exact no _ (oks2 h hj hi) (by simp) (by simp) (pair j i q hi)
/-- whether a volatility fits one -/
def fitB (s : Smp) (v : Rat) : Bool := decide ((lo s).1 ≤ v ^ s.m) && decide (v ^ s.m ≤ (hi s).1)
theorem fit_one {s : Smp} {v : Rat} : fitB s v = true ↔ leE (lo s) (v, 1) ∧ leE (v, 1) (hi s) := by
  unfold fitB leE
  rw [Bool.and_eq_true, decide_eq_true_iff, decide_eq_true_iff, Mx.pow_one', Mx.pow_one']
  exact Iff.rfl
theorem fit_all {l : List Smp} {v : Rat} (h : Oks l) (hv : 0 < v) : (l.all fun s => fitB s v) = (decide (leE (tops l) (v, 1)) && decide (leE (v, 1) (lows l))) := by
  have ev : En (v, 1) := ⟨hv, by show 0 < 1; omega⟩
  rw [Bool.eq_iff_iff, List.all_eq_true, Bool.and_eq_true, decide_eq_true_iff, decide_eq_true_iff]
  constructor
  · intro g
    obtain ⟨s, hs, es⟩ := tops_mem h.1
    obtain ⟨t, ht, et⟩ := lows_mem h.1
    rw [es, et]
    exact ⟨(fit_one.mp (g s hs)).1, (fit_one.mp (g t ht)).2⟩
  · rintro ⟨a, b⟩ s hs
    have o := h.2 s hs
    exact fit_one.mpr ⟨leE_trans (lo_ok o).en (tops_ok h).en ev (tops_ge h s hs) a, leE_trans ev (lows_ok h).en (hi_ok o).en b (lows_le h s hs)⟩
theorem fit_let {l : List Smp} {v : Rat} (h : Oks l) (hv : 1 < v) (g : (l.all fun s => fitB s v) = true) : letB l = true := by
  have v0 : 0 < v := by grind
  have ev : En (v, 1) := ⟨v0, by show 0 < 1; omega⟩
  rw [fit_all h v0, Bool.and_eq_true, decide_eq_true_iff, decide_eq_true_iff] at g
  unfold letB
  rw [Bool.and_eq_true, decide_eq_true_iff, decide_eq_true_iff]
  refine ⟨gt1.mpr fun z => ?_, leE_trans (tops_ok h).en ev (lows_ok h).en g.1 g.2⟩
  have := leE_trans ev (lows_ok h).en en1 g.2 z
  exact (gt1 (e := (v, 1))).mp hv this
def eqE (e f : Rat × Nat) : Bool := decide (leE e f) && decide (leE f e)
/-- whether the same numbers fit two rows -/
def sameB (l r : List Smp) : Bool := if letB l = true then (if letB r = true then eqE (lows l) (lows r) && ((!decide (1 < (tops l).1) && !decide (1 < (tops r).1)) || eqE (tops l) (tops r)) else false) else !letB r
def dropS (l : List Smp) (i : Nat) : List Smp := l.take i ++ l.drop (i + 1)
def needB (l : List Smp) (i : Nat) : Bool := !(dropS l i).isEmpty && sameB l (dropS l i)
/-! ### contracts -/
def lD (l : List Smp) : D := .tuple (l.map smpD)
theorem map_tabS {l : List Smp} : l.map smpD = tab l.length fun i => smpD (nth l i) := by
  unfold tab
  apply List.ext_getElem
  · simp
  · intro i h1 h2
    simp only [List.length_map] at h1
    simp [nth, List.getD_eq_getElem?_getD, h1]
theorem sh_pair {a b : Rat} (ha : Sz 250 a) (hb : Sz 250 b) : Sh 2 7712 (.tuple [Lib.fr a, Lib.fr b]) := by
  have := sh_tup (e := 1) (L := 3852) (xs := [Lib.fr a, Lib.fr b]) fun x hx => by
    simp only [List.mem_cons, List.not_mem_nil, or_false] at hx
    rcases hx with rfl | rfl
    · exact sh_fr ha (by omega)
    · exact sh_fr hb (by omega)
  exact this.mono (by omega) (by simp)
theorem sh_small {n : Nat} (h : n < 1000) : Sh 0 1922 (.int n) := sh_int (Nat.lt_of_lt_of_le (m := 2 ^ 10) (by simp; omega) (Nat.pow_le_pow_right (by omega) (by omega)))
theorem smp_sh {s : Smp} (h : Ok s) : Sh 3 23146 (smpD s) := by
  have := h.m2
  have := sh_tup (e := 2) (L := 7712) (xs := [.int s.m, .tuple [Lib.fr s.x1, Lib.fr s.x2], .tuple [Lib.fr s.y1, Lib.fr s.y2]]) fun x hx => by
    simp only [List.mem_cons, List.not_mem_nil, or_false] at hx
    rcases hx with rfl | rfl | rfl
    · exact (sh_small (by omega)).mono (by omega) (by omega)
    · exact sh_pair (h.a1.sz.mono (by omega)) (h.a2.sz.mono (by omega))
    · exact sh_pair (h.a3.sz.mono (by omega)) (h.a4.sz.mono (by omega))
  exact this.mono (by omega) (by simp)
theorem lD_shp {l : List Smp} (h : ∀ s ∈ l, Ok s) : shp (lD l) := by
  refine (sh_tup (e := 3) (L := 23146) fun x hx => ?_).shp (by omega)
  obtain ⟨s, hs, rfl⟩ := List.mem_map.mp hx
  exact smp_sh (h s hs)
theorem lD_tame {l : List Smp} : tame (lD l) = true := tames_map fun _ _ => rfl
theorem shp_unit : shp (.tuple []) := by unfold shp; rfl
theorem lD_eq {l : List Smp} (h : ∀ s ∈ l, Ok s) {kb : Bool → Prop} (q : kb l.isEmpty) : cmpD .eq (lD l) (.tuple []) kb :=
  R.eq_tame (lD_shp h) shp_unit lD_tame rfl (by unfold lD; simp [List.isEmpty_iff]) q
theorem lD_ne {l : List Smp} (h : ∀ s ∈ l, Ok s) {kb : Bool → Prop} (q : kb (!l.isEmpty)) : cmpD .ne (lD l) (.tuple []) kb :=
  R.ne_tame (lD_shp h) shp_unit lD_tame rfl (by unfold lD; simp [List.isEmpty_iff]) q
theorem In1.num {x : Rat} (hx : In1 x) : 0 < x.num ∧ x.num < (x.den : Int) := by
  have le := le1_num (Rat.le_of_lt hx.l)
  have n0 := Rat.num_nonneg.mpr (Rat.le_of_lt hx.p)
  have nz : x.num ≠ 0 := num_ne (by have := hx.p; grind)
  have ne : x.num ≠ (x.den : Int) := fun z => by
    have ep : x = (x.num : Rat) / ((x.den : Int) : Rat) := ((Rat.mkRat_eq_div x.num x.den).symm.trans (Rat.mkRat_self x)).symm
    have dn := Mx.cast_ne (show (x.den : Int) ≠ 0 by have := x.den_pos; omega)
    rw [z] at ep
    have := hx.l
    have : x = 1 := by rw [ep]; grind
    grind
  omega
theorem w_is_inner {k : Nat} {x : Rat} {Q E} (hx : In1 x) (h : Q (.dat (.bool true)) []) : gam P (k + 4) "is_inner" [.dat (Lib.fr x)] Q E := by
  have n := hx.num
  refine R.opn Nd.nd (Has.mem (d := d_is_inner)) rfl ?_
  simp only [d_is_inner, List.map, List.replicate, List.length_cons, List.length_nil, List.cons_append, List.nil_append, Nat.reduceAdd, Nat.reduceSub]
  (repeat walk_at "w1")
  refine w_is_ratio ?_
  simp only [Lib.fr]
  (repeat walk_at "w1")
  refine R.iteD (fun _ => ?_) fun g => absurd n.1 g
  (repeat walk_at "w1")
  rw [decide_eq_true n.2]
  exact h
theorem w_is_pair {k : Nat} {a b : Rat} {Q E} (ha : In1 a) (hb : In1 b) (le : a ≤ b) (h : Q (.dat (.bool true)) []) : gam P (k + 5) "is_pair" [.dat (.tuple [Lib.fr a, Lib.fr b])] Q E := by
  refine R.opn Nd.nd (Has.mem (d := d_is_pair)) rfl ?_
  simp only [d_is_pair, List.map, List.replicate, List.length_cons, List.length_nil, List.cons_append, List.nil_append, Nat.reduceAdd, Nat.reduceSub]
  (repeat walk_at "w1")
  refine R.ifF ?_
  (repeat walk_at "w1")
  refine R.iteN (fun g => absurd rfl g) fun _ => ?_
  (repeat walk_at "w1")
  refine w_is_inner ha ?_
  dsimp only
  refine R.ifF ?_
  (repeat walk_at "w1")
  refine w_is_inner hb ?_
  dsimp only
  refine R.ifF ?_
  (repeat walk_at "w1")
  refine w_is_below hb.sz ha.sz (by omega) ?_
  (repeat walk_at "w1")
  rw [decide_eq_false (Rat.not_lt.mpr le)]
  exact h
theorem w_is_sample {k : Nat} {s : Smp} {Q E} (hs : Ok s) (h : Q (.dat (.bool true)) []) : gam P (k + 6) "is_sample" [.dat (smpD s)] Q E := by
  refine R.opn Nd.nd (Has.mem (d := d_is_sample)) rfl ?_
  simp only [d_is_sample, List.map, List.replicate, List.length_cons, List.length_nil, List.cons_append, List.nil_append, Nat.reduceAdd, Nat.reduceSub]
  simp only [smpD]
  (repeat walk_at "w1")
  refine R.ifF ?_
  (repeat walk_at "w1")
  refine R.iteN (fun g => absurd rfl g) fun _ => ?_
  (repeat walk_at "w1")
  refine w_is_between ?_
  dsimp only
  have := hs.m1
  have := hs.m2
  rw [decide_eq_true (show (1 : Int) ≤ s.m ∧ (s.m : Int) ≤ 12 by omega)]
  refine R.ifF ?_
  (repeat walk_at "w1")
  refine w_is_pair hs.a1 hs.a2 hs.l1 ?_
  dsimp only
  refine R.ifT ?_
  (repeat walk_at "w1")
  refine w_is_pair hs.a3 hs.a4 hs.l2 ?_
  (repeat walk_at "w1")
  exact h
theorem w_wrong_sample {k : Nat} {l : List Smp} {Q E} (hl : ∀ s ∈ l, Ok s) (h8 : l.length ≤ 8) (h : Q (.dat .none) []) : gam P (k + 7) "wrong_sample" [.dat (lD l)] Q E := by
  refine R.opn Nd.nd (Has.mem (d := d_wrong_sample)) rfl ?_
  simp only [d_wrong_sample, List.map, List.replicate, List.length_cons, List.length_nil, List.cons_append, List.nil_append, Nat.reduceAdd, Nat.reduceSub]
  simp only [lD]
  (repeat walk_at "w1")
  rw [map_tabS, tab_enum]
  refine for_rngE (n := l.length) (σ := Option Sl × Option Sl) (fun i => .tuple [.int i, smpD (nth l i)]) (fun s => [some (.dat (.tuple (tab l.length fun i => smpD (nth l i)))), s.1, s.2]) (fun i s => NoOw s.1 ∧ NoOw s.2) ?_ ?_ (none, none) ⟨.n, .n⟩
  · rintro i ⟨x, y⟩ nx hi ⟨hx, hy⟩ hn
    simp only at hx hy
    refine R.an_two (R.nio rfl hx.ok) (R.nio rfl hy.ok) ?_
    (repeat walk_at "w1")
    refine R.iteD (fun g => absurd g (by omega)) fun _ => ?_
    (repeat walk_at "w1")
    refine w_is_sample (hl _ (nth_mem hi)) ?_
    dsimp only
    refine R.ifF ?_
    (repeat walk_at "w1")
    exact hn (_, _) ⟨.d, .d⟩
  · rintro ⟨x, y⟩ ⟨hx, hy⟩
    (repeat walk_at "w1")
    exact h
theorem w_check_samples {k : Nat} {l : List Smp} {Q E} (hl : Oks l) (h8 : l.length ≤ 8) (h : Q (.dat .none) []) : gam P (k + 8) "check_samples" [.dat (lD l)] Q E := by
  have e : lD l = .tuple (l.map smpD) := rfl
  refine R.opn Nd.nd (Has.mem (d := d_check_samples)) rfl ?_
  simp only [d_check_samples, List.map, List.replicate, List.length_cons, List.length_nil, List.cons_append, List.nil_append, Nat.reduceAdd, Nat.reduceSub]
  rw [e]
  (repeat walk_at "w1")
  refine R.ifF ?_
  (repeat walk_at "w1")
  rw [← e]
  refine lD_eq hl.2 ?_
  have : l.isEmpty = false := by cases l with
    | nil => exact absurd rfl hl.1
    | cons _ _ => rfl
  rw [this]
  (repeat walk_at "w1")
  refine w_wrong_sample hl.2 h8 ?_
  (repeat walk_at "w1")
  exact h
theorem w_check_volatility {k : Nat} {v : Rat} {Q E} (hv : 1 < v) (h : Q (.dat .none) []) : gam P (k + 5) "check_volatility" [.dat (Lib.fr v)] Q E := by
  have : (v.den : Int) < v.num := by
    have := (Rat.lt_iff 1 v).mp hv
    simpa using this
  refine R.opn Nd.nd (Has.mem (d := d_check_volatility)) rfl ?_
  simp only [d_check_volatility, List.map, List.replicate, List.length_cons, List.length_nil, List.cons_append, List.nil_append, Nat.reduceAdd, Nat.reduceSub]
  (repeat walk_at "w1")
  refine R.opn Nd.nd (Has.mem (d := d_is_volatility)) rfl ?_
  simp only [d_is_volatility, List.map, List.replicate, List.length_cons, List.length_nil, List.cons_append, List.nil_append, Nat.reduceAdd, Nat.reduceSub]
  (repeat walk_at "w1")
  refine w_is_ratio ?_
  dsimp only
  refine R.ifT ?_
  simp only [Lib.fr]
  (repeat walk_at "w1")
  rw [decide_eq_true this]
  refine R.ifF ?_
  (repeat walk_at "w1")
  exact h
end K91
--GEN /tmp/w/o/K91a.lean
namespace K91
open PySem DL L2 Lib
local macro_rules | `(tactic| walk_at "w1") => `(tactic| (first
  | (with_reducible refine R.lit ?_) | (with_reducible refine R.con ?_)
  | ((with_reducible refine' R.var ?g ?h); (case g => exact rfl))
  | ((with_reducible refine' R.varO ?g ?h); (case g => exact rfl))
  | (with_reducible refine R.op2 ?_) | (with_reducible refine R.cmp ?_) | (with_reducible refine R.idx ?_) | (with_reducible refine R.slc ?_) | (with_reducible refine R.oN ?_) | (with_reducible refine R.oS ?_)
  | (with_reducible refine R.tcmp ?_) | (with_reducible refine R.tnot ?_) | (with_reducible refine R.tand ?_) | (with_reducible refine R.tor ?_) | (with_reducible refine R.tcall ?_) | (with_reducible refine R.tbi ?_) | (with_reducible refine R.tisN ?_) | (with_reducible refine R.tnotN ?_) | (with_reducible refine R.tchain ?_) | (with_reducible refine R.tvar ?_) | (with_reducible refine R.tcallK ?_)
  | (with_reducible refine R.isN ?_) | (with_reducible refine R.notN ?_) | (with_reducible refine R.chain ?_) | (with_reducible refine R.neg ?_) | (with_reducible refine R.not ?_) | (with_reducible refine R.and ?_) | (with_reducible refine R.or ?_) | (with_reducible refine R.ife ?_)
  | (with_reducible refine R.tup ?_) | (with_reducible refine R.lst ?_) | (with_reducible refine R.call ?_) | (with_reducible refine R.callK ?_) | (with_reducible refine R.callIo ?_) | (with_reducible refine R.bi ?_) | (with_reducible refine R.comp ?_) | (with_reducible refine R.index ?_) | (with_reducible refine R.repL ?_) | (with_reducible refine R.listR ?_)
  | (with_reducible refine R.an ?_) | (with_reducible refine R.ac ?_) | (with_reducible refine R.en ?_) | (with_reducible refine R.ec ?_) | (with_reducible refine R.ed ?_) | (with_reducible refine R.eo ?_)
  | ((with_reducible refine' R.erd ?g ?h); (case g => exact rfl)) | ((with_reducible refine' R.ero ?g ?h); (case g => exact rfl))
  | ((with_reducible refine' R.w1 ?g ?h); (case g => exact rfl)) | ((with_reducible refine' R.w2 ?g ?g' ?h); (case g => exact rfl); (case g' => exact rfl)) | ((with_reducible refine' R.ws ?g ?h); (case g => exact rfl))
  | (with_reducible refine R.fval rfl ?_) | (with_reducible refine R.f_l ?_) | (with_reducible refine R.f_t ?_) | (with_reducible refine R.ival rfl ?_) | (with_reducible refine R.i_l ?_) | (with_reducible refine R.i_t ?_) | (with_reducible refine R.i_o ?_) | ((with_reducible refine' R.i_r ?g ?h); (case g => exact rfl))
  | (with_reducible refine R.irange ?_) | (with_reducible refine R.frange ?_) | (with_reducible refine R.ienum ?_) | (with_reducible refine R.fenum ?_) | (with_reducible refine R.izip ?_) | (with_reducible refine R.fzip ?_) | (with_reducible refine R.irev ?_) | (with_reducible refine R.frev ?_) | ((with_reducible refine' R.zip_at ?g ?g' ?h); (case g => exact rfl); (case g' => exact rfl)) | (with_reducible refine R.eq_i ?_) | (with_reducible refine R.ne_i ?_) | (with_reducible refine R.sretN ?_)
  | (with_reducible refine R.sn ?_) | (with_reducible refine R.sc ?_) | (with_reducible refine R.sasg ?_) | (with_reducible refine R.spar ?_) | (with_reducible refine R.sexpr ?_) | (with_reducible refine R.sapp ?_) | (with_reducible refine R.sext ?_) | (with_reducible refine R.sret ?_) | (with_reducible refine R.site ?_) | (with_reducible refine R.sfor ?_)
  | ((with_reducible refine R.nd_ ?n ?h); (case n => first | exact R.nio rfl rfl | exact R.nio rfl (DL.NoOw.ok (by assumption)))) | ((with_reducible refine R.no_ ?n ?h); (case n => first | exact R.nio rfl rfl | exact R.nio rfl (DL.NoOw.ok (by assumption)))) | ((with_reducible refine R.nr_ ?n ?h); (case n => first | exact R.nio rfl rfl | exact R.nio rfl (DL.NoOw.ok (by assumption))))
  | ((with_reducible refine' R.an_name ?n ?h); (case n => first | assumption | exact R.nio rfl rfl | exact R.nio rfl (DL.NoOw.ok (by assumption)))) | ((with_reducible refine' R.an_two ?n ?m ?h); (case n => first | assumption | exact R.nio rfl rfl | exact R.nio rfl (DL.NoOw.ok (by assumption))); (case m => first | assumption | exact R.nio rfl rfl | exact R.nio rfl (DL.NoOw.ok (by assumption)))) | ((with_reducible refine' R.an_three ?n ?m ?o ?h); (case n => first | assumption | exact R.nio rfl rfl | exact R.nio rfl (DL.NoOw.ok (by assumption))); (case m => first | assumption | exact R.nio rfl rfl | exact R.nio rfl (DL.NoOw.ok (by assumption))); (case o => first | assumption | exact R.nio rfl rfl | exact R.nio rfl (DL.NoOw.ok (by assumption)))) | (with_reducible refine R.tt rfl ?_) | (with_reducible refine R.tn ?_) | (with_reducible refine R.tc ?_) | (with_reducible refine R.subd ?_) | ((with_reducible refine' R.own_and ?g ?h); (case g => exact rfl)) | ((with_reducible refine' R.put_at ?g ?g' ?h); (case g => exact rfl); (case g' => exact rfl)) | ((with_reducible refine' R.io_ref ?g ?h); (case g => exact rfl)) | (with_reducible refine R.io_own ?_) | (with_reducible refine R.one_1 ?_) | (with_reducible refine R.setn ?_) | (with_reducible refine R.setd ?_) | (with_reducible refine R.seto ?_) | (with_reducible refine R.setr ?_)
  | ((with_reducible refine' R.find ?g ?h); (case g => exact rfl)) | ((with_reducible refine' R.fino ?g ?h); (case g => exact rfl)) | ((with_reducible refine' R.finr ?g ?g' ?h); (case g => exact rfl); (case g' => exact rfl)) | ((with_reducible refine' R.find' ?g ?g' ?h); (case g => exact rfl); (case g' => exact rfl))
  | (with_reducible refine R.ifT ?_) | (with_reducible refine R.ifF ?_)
  | ((with_reducible refine' R.pow_i ?g ?h); (case g => decide)) | ((with_reducible refine' R.mul_i ?g ?h); (case g => exact mulOk 60 60 (by omega) (by omega) (by decide))) | ((with_reducible refine' R.fdiv_i ?g ?h); (case g => exact divOk (by omega) (by omega))) | ((with_reducible refine' R.mod_i ?g ?h); (case g => omega))
  | (with_reducible refine R.add_i ?_) | (with_reducible refine R.sub_i ?_) | (with_reducible refine R.lt_i ?_) | (with_reducible refine R.le_i ?_) | (with_reducible refine R.gt_i ?_) | (with_reducible refine R.ge_i ?_)
  | ((with_reducible refine' R.idx_l ?g ?h); (case g => exact rfl)) | ((with_reducible refine' R.idx_t ?g ?h); (case g => exact rfl)) | (with_reducible refine R.slc_l ?_) | (with_reducible refine R.slc_t ?_)
  | (with_reducible refine R.len_l ?_) | (with_reducible refine R.len_t ?_) | (with_reducible refine R.tuple_l ?_) | (with_reducible refine R.tuple_t ?_) | (with_reducible refine R.list_l ?_) | (with_reducible refine R.list_t ?_) | (with_reducible refine R.abs_i ?_) | (with_reducible refine R.int_i ?_) | (with_reducible refine R.gcd_i ?_)
  | (with_reducible refine R.isint ?_) | (with_reducible refine R.isbool ?_) | (with_reducible refine R.istuple ?_) | (with_reducible refine R.islist ?_)
  | (with_reducible refine R.sum_is ?_) | (with_reducible refine R.all_bs ?_) | ((with_reducible refine R.any_bs ?_))); (try dsimp only [List.map, List.set, Int.reduceToNat, Bool.not_true, Bool.not_false, DL.restR, DL.gt, DL.wipeR]))
open Mx (leE topE lowE En leE_trans leE_refl leE_total)
theorem Eo.ite {c : Prop} [Decidable c] {e f : Rat × Nat} (he : Eo e) (hf : Eo f) : Eo (if c then e else f) := by split; exact he; exact hf
theorem w_ends_by {k : Nat} {l : List Smp} {Q E} (hl : Oks l) (h : Q (.dat (.tuple [endD (tops l), endD (lows l)])) []) : gam P (k + 7) "ends_by" [.dat (lD l)] Q E := by
  obtain ⟨s, r, rfl⟩ := List.exists_cons_of_ne_nil hl.1
  have hs := hl.2 s List.mem_cons_self
  refine R.opn Nd.nd (Has.mem (d := d_ends_by)) rfl ?_
  simp only [d_ends_by, List.map, List.replicate, List.length_cons, List.length_nil, List.cons_append, List.nil_append, Nat.reduceAdd, Nat.reduceSub]
  simp only [lD, List.map]
  (repeat walk_at "w1")
  refine R.idx_t (x := smpD s) (atI_nat (j := 0) rfl) ?_
  (repeat walk_at "w1")
  refine w_low_end hs ?_
  (repeat walk_at "w1")
  refine R.idx_t (x := smpD s) (atI_nat (j := 0) rfl) ?_
  (repeat walk_at "w1")
  refine w_high_end hs ?_
  (repeat walk_at "w1")
  refine for_l (α := Smp) (σ := (Rat × Nat) × (Rat × Nat) × Option Sl) smpD (fun t => [some (.dat (.tuple (smpD s :: r.map smpD))), t.2.2, some (.dat (endD t.1)), some (.dat (endD t.2.1))])
    (fun ss t => NoOw t.2.2 ∧ (∀ u ∈ ss, Ok u) ∧ Eo t.1 ∧ Eo t.2.1 ∧ topE t.1 (ss.map lo) = tops (s :: r) ∧ lowE t.2.1 (ss.map hi) = lows (s :: r)) ?_ ?_ (s :: r) (lo s, hi s, none) ⟨.n, hl.2, lo_ok hs, hi_ok hs, ?_, ?_⟩
  · rintro u us ⟨e, f, x⟩ nx ⟨hx, ho, he, hf, ht, hh⟩ hn
    simp only at hx ho he hf ht hh
    have hu := ho u List.mem_cons_self
    have ho' : ∀ v ∈ us, Ok v := fun v hv => ho v (List.mem_cons_of_mem _ hv)
    have ht' : topE (if leE (lo u) e then e else lo u) (us.map lo) = tops (s :: r) := ht
    have hh' : lowE (if leE f (hi u) then f else hi u) (us.map hi) = lows (s :: r) := hh
    have second : ∀ e' : Rat × Nat, Eo e' → topE e' (us.map lo) = tops (s :: r) → ∀ (bk : Rho → Prop) (rt : Rs → Rho → Prop), wpSs ((gam P (k + 6))) [.ite (.call "is_end_below" [.call "high_end" [.var 1], .var 3]) [.asg (.name 3) (.call "high_end" [.var 1])] []] E { nx := nx, ct := nx, bk := bk, rt := rt }
        [some (.dat (.tuple (smpD s :: r.map smpD))), some (.dat (smpD u)), some (.dat (endD e')), some (.dat (endD f))] := by
      intro e' he' ht'' bk rt
      (repeat walk_at "w1")
      refine w_high_end hu ?_
      (repeat walk_at "w1")
      refine w_is_end_below (hi_ok hu) hf ?_
      dsimp only
      refine R.iteN (fun g => ?_) fun g => ?_
      · rw [if_neg g] at hh'
        (repeat walk_at "w1")
        refine w_high_end hu ?_
        (repeat walk_at "w1")
        exact hn (_, _, _) ⟨.d, ho', he', hi_ok hu, ht'', hh'⟩
      · rw [if_pos g] at hh'
        (repeat walk_at "w1")
        exact hn (_, _, _) ⟨.d, ho', he', hf, ht'', hh'⟩
    refine R.an_name (R.nio rfl hx.ok) ?_
    (repeat walk_at "w1")
    refine w_low_end hu ?_
    (repeat walk_at "w1")
    refine w_is_end_below he (lo_ok hu) ?_
    dsimp only
    refine R.iteN (fun g => ?_) fun g => ?_
    · rw [if_neg g] at ht'
      (repeat walk_at "w1")
      refine w_low_end hu ?_
      (repeat (first | (with_reducible exact second (lo u) (lo_ok hu) ht' _ _) | walk_at "w1"))
    · rw [if_pos g] at ht'
      (repeat (first | (with_reducible exact second e he ht' _ _) | walk_at "w1"))
  · rintro ⟨e, f, x⟩ ⟨hx, ho, he, hf, ht, hh⟩
    simp only at hx ho he hf ht hh
    have e1 : e = tops (s :: r) := ht
    have e2 : f = lows (s :: r) := hh
    subst e1 e2
    (repeat walk_at "w1")
    exact h
  · show topE (if leE (lo s) (lo s) then lo s else lo s) (r.map lo) = topE (lo s) (r.map lo)
    rw [if_pos (leE_refl _)]
  · show lowE (if leE (hi s) (hi s) then hi s else hi s) (r.map hi) = lowE (hi s) (r.map hi)
    rw [if_pos (leE_refl _)]
theorem roots_pos {e f : Rat × Nat} : decide (0 < rootsI e f) = !decide (leE e f) := side_pos
theorem roots_neg {e f : Rat × Nat} : decide (rootsI e f < 0) = !decide (leE f e) := side_neg
theorem roots_le {e f : Rat × Nat} : decide (rootsI e f ≤ 0) = decide (leE e f) := side_le
theorem roots_ge {e f : Rat × Nat} : decide (0 ≤ rootsI e f) = decide (leE f e) := side_ge
theorem roots_eq {e f : Rat × Nat} : decide (rootsI e f = 0) = eqE e f := side_eq
theorem Eo.rt {e f : Rat × Nat} {k : Nat} {Q E} (he : Eo e) (hf : Eo f) (h : Q (.dat (.int (rootsI e f))) []) : gam P (k + 3) "_law_roots" [.dat (endD e), .dat (endD f)] Q E :=
  wl_roots (he.sz.mono (by omega)) he.le (hf.sz.mono (by omega)) hf.le h
theorem cut_tail {x : D} {xs : List D} : cutD (x :: xs) (some 1) none = xs := by
  unfold cutD
  rw [show (1 : Int) = ((1 : Nat) : Int) from rfl, HT.sIx_none, HT.sIx_nat, List.length_cons, Nat.min_eq_left (by omega)]
  exact List.take_of_length_le (by simp)
theorem wl_ends_of {k : Nat} {l : List Smp} {Q E} (hl : Oks l) (h : Q (.dat (.tuple [endD (tops l), endD (lows l)])) []) : gam P (k + 6) "_law_ends_of" [.dat (lD l)] Q E := by
  obtain ⟨s, r, rfl⟩ := List.exists_cons_of_ne_nil hl.1
  have hs := hl.2 s List.mem_cons_self
  refine R.opn Nd.nd (Has.mem (d := d__law_ends_of)) rfl ?_
  simp only [d__law_ends_of, List.map, List.replicate, List.length_cons, List.length_nil, List.cons_append, List.nil_append, Nat.reduceAdd, Nat.reduceSub]
  simp only [lD, List.map]
  (repeat walk_at "w1")
  refine R.idx_t (x := smpD s) (atI_nat (j := 0) rfl) ?_
  (repeat walk_at "w1")
  refine wl_bounds hs ?_
  (repeat walk_at "w1")
  rw [cut_tail]
  refine for_l (α := Smp) (σ := (Rat × Nat) × (Rat × Nat) × Option Sl × Option Sl × Option Sl) smpD (fun t => [some (.dat (.tuple (smpD s :: r.map smpD))), t.2.2.1, some (.dat (endD t.1)), some (.dat (endD t.2.1)), t.2.2.2.1, t.2.2.2.2])
    (fun ss t => (NoOw t.2.2.1 ∧ NoOw t.2.2.2.1 ∧ NoOw t.2.2.2.2) ∧ (∀ u ∈ ss, Ok u) ∧ Eo t.1 ∧ Eo t.2.1 ∧ topE t.1 (ss.map lo) = tops (s :: r) ∧ lowE t.2.1 (ss.map hi) = lows (s :: r)) ?_ ?_ r (lo s, hi s, none, none, none) ⟨⟨.n, .n, .n⟩, fun u hu => hl.2 u (List.mem_cons_of_mem _ hu), lo_ok hs, hi_ok hs, rfl, rfl⟩
  · rintro u us ⟨e, f, x, y, z⟩ nx ⟨⟨hx, hy, hz⟩, ho, he, hf, ht, hh⟩ hn
    simp only at hx hy hz ho he hf ht hh
    have hu := ho u List.mem_cons_self
    have ho' : ∀ v ∈ us, Ok v := fun v hv => ho v (List.mem_cons_of_mem _ hv)
    have ht' : topE (if leE (lo u) e then e else lo u) (us.map lo) = tops (s :: r) := ht
    have hh' : lowE (if leE f (hi u) then f else hi u) (us.map hi) = lows (s :: r) := hh
    have key : nx [some (.dat (.tuple (smpD s :: r.map smpD))), some (.dat (smpD u)), some (.dat (endD (if leE (lo u) e then e else lo u))), some (.dat (endD (if leE f (hi u) then f else hi u))), some (.dat (endD (lo u))), some (.dat (endD (hi u)))] :=
      hn (_, _, _, _, _) ⟨⟨.d, .d, .d⟩, ho', he.ite (lo_ok hu), hf.ite (hi_ok hu), ht', hh'⟩
    refine R.an_name (R.nio rfl hx.ok) ?_
    (repeat walk_at "w1")
    refine wl_bounds hu ?_
    refine R.tt rfl ?_
    refine R.tc ?_
    refine R.nd_ (R.nio rfl hy.ok) ?_
    refine R.tc ?_
    refine R.nd_ (R.nio rfl hz.ok) ?_
    (repeat walk_at "w1")
    refine (lo_ok hu).rt he ?_
    (repeat walk_at "w1")
    rw [roots_pos]
    refine R.iteN (fun g => ?_) fun g => ?_
    · rw [if_neg g] at key
      (repeat walk_at "w1")
      refine (hi_ok hu).rt hf ?_
      (repeat walk_at "w1")
      rw [roots_neg]
      refine R.iteN (fun g => ?_) fun g => ?_
      · rw [if_neg g] at key
        (repeat walk_at "w1")
        exact key
      · rw [if_pos g] at key
        (repeat walk_at "w1")
        exact key
    · rw [if_pos g] at key
      (repeat walk_at "w1")
      refine (hi_ok hu).rt hf ?_
      (repeat walk_at "w1")
      rw [roots_neg]
      refine R.iteN (fun g => ?_) fun g => ?_
      · rw [if_neg g] at key
        (repeat walk_at "w1")
        exact key
      · rw [if_pos g] at key
        (repeat walk_at "w1")
        exact key
  · rintro ⟨e, f, x, y, z⟩ ⟨⟨hx, hy, hz⟩, ho, he, hf, ht, hh⟩
    simp only at hx hy hz ho he hf ht hh
    have e1 : e = tops (s :: r) := ht
    have e2 : f = lows (s :: r) := hh
    subst e1 e2
    (repeat walk_at "w1")
    exact h
theorem wl_is_let {k : Nat} {l : List Smp} {Q E} (hl : Oks l) (h : Q (.dat (.bool (letB l))) []) : gam P (k + 7) "_law_is_let" [.dat (lD l)] Q E := by
  have ht := tops_ok hl
  have hh := lows_ok hl
  unfold letB at h
  refine R.opn Nd.nd (Has.mem (d := d__law_is_let)) rfl ?_
  simp only [d__law_is_let, List.map, List.replicate, List.length_cons, List.length_nil, List.cons_append, List.nil_append, Nat.reduceAdd, Nat.reduceSub]
  (repeat walk_at "w1")
  refine wl_ends_of hl ?_
  (repeat walk_at "w1")
  simp only [endD]
  (repeat walk_at "w1")
  refine wl_side (b := 1) hh.sz sz_1 (by omega) ?_
  (repeat walk_at "w1")
  rw [side_pos, ← lt_dec]
  cases g : decide (1 < (lows l).1) with
  | false =>
    rw [g] at h
    refine R.ifF ?_
    (repeat walk_at "w1")
    exact h
  | true =>
    rw [g] at h
    refine R.ifT ?_
    (repeat walk_at "w1")
    refine ht.rt hh ?_
    (repeat walk_at "w1")
    rw [roots_le]
    exact h
theorem w_ends_of {k : Nat} {l : List Smp} {Q E} (hl : Oks l) (h8 : l.length ≤ 8) (h : Q (.dat (if letB l = true then .tuple [endD (tops l), endD (lows l)] else .none)) []) : gam P (k + 9) "ends_of" [.dat (lD l)] Q E := by
  refine R.opn Nd.nd (Has.mem (d := d_ends_of)) rfl ?_
  simp only [d_ends_of, List.map, List.replicate, List.length_cons, List.length_nil, List.cons_append, List.nil_append, Nat.reduceAdd, Nat.reduceSub]
  (repeat walk_at "w1")
  refine w_check_samples hl h8 ?_
  (repeat walk_at "w1")
  refine w_ends_by hl ?_
  (repeat walk_at "w1")
  refine w_is_empty (tops_ok hl) (lows_ok hl) ?_
  dsimp only
  rw [letB_emp]
  cases g : letB l with
  | false =>
    rw [g] at h
    refine R.ifT ?_
    (repeat walk_at "w1")
    exact h
  | true =>
    rw [g] at h
    refine R.ifF ?_
    (repeat walk_at "w1")
    exact h
end K91
--GEN /tmp/w/o/K91a.lean
namespace K91
open PySem DL L2 Lib
local macro_rules | `(tactic| walk_at "w1") => `(tactic| (first
  | (with_reducible refine R.lit ?_) | (with_reducible refine R.con ?_)
  | ((with_reducible refine' R.var ?g ?h); (case g => exact rfl))
  | ((with_reducible refine' R.varO ?g ?h); (case g => exact rfl))
  | (with_reducible refine R.op2 ?_) | (with_reducible refine R.cmp ?_) | (with_reducible refine R.idx ?_) | (with_reducible refine R.slc ?_) | (with_reducible refine R.oN ?_) | (with_reducible refine R.oS ?_)
  | (with_reducible refine R.tcmp ?_) | (with_reducible refine R.tnot ?_) | (with_reducible refine R.tand ?_) | (with_reducible refine R.tor ?_) | (with_reducible refine R.tcall ?_) | (with_reducible refine R.tbi ?_) | (with_reducible refine R.tisN ?_) | (with_reducible refine R.tnotN ?_) | (with_reducible refine R.tchain ?_) | (with_reducible refine R.tvar ?_) | (with_reducible refine R.tcallK ?_)
  | (with_reducible refine R.isN ?_) | (with_reducible refine R.notN ?_) | (with_reducible refine R.chain ?_) | (with_reducible refine R.neg ?_) | (with_reducible refine R.not ?_) | (with_reducible refine R.and ?_) | (with_reducible refine R.or ?_) | (with_reducible refine R.ife ?_)
  | (with_reducible refine R.tup ?_) | (with_reducible refine R.lst ?_) | (with_reducible refine R.call ?_) | (with_reducible refine R.callK ?_) | (with_reducible refine R.callIo ?_) | (with_reducible refine R.bi ?_) | (with_reducible refine R.comp ?_) | (with_reducible refine R.index ?_) | (with_reducible refine R.repL ?_) | (with_reducible refine R.listR ?_)
  | (with_reducible refine R.an ?_) | (with_reducible refine R.ac ?_) | (with_reducible refine R.en ?_) | (with_reducible refine R.ec ?_) | (with_reducible refine R.ed ?_) | (with_reducible refine R.eo ?_)
  | ((with_reducible refine' R.erd ?g ?h); (case g => exact rfl)) | ((with_reducible refine' R.ero ?g ?h); (case g => exact rfl))
  | ((with_reducible refine' R.w1 ?g ?h); (case g => exact rfl)) | ((with_reducible refine' R.w2 ?g ?g' ?h); (case g => exact rfl); (case g' => exact rfl)) | ((with_reducible refine' R.ws ?g ?h); (case g => exact rfl))
  | (with_reducible refine R.fval rfl ?_) | (with_reducible refine R.f_l ?_) | (with_reducible refine R.f_t ?_) | (with_reducible refine R.ival rfl ?_) | (with_reducible refine R.i_l ?_) | (with_reducible refine R.i_t ?_) | (with_reducible refine R.i_o ?_) | ((with_reducible refine' R.i_r ?g ?h); (case g => exact rfl))
  | (with_reducible refine R.irange ?_) | (with_reducible refine R.frange ?_) | (with_reducible refine R.ienum ?_) | (with_reducible refine R.fenum ?_) | (with_reducible refine R.izip ?_) | (with_reducible refine R.fzip ?_) | (with_reducible refine R.irev ?_) | (with_reducible refine R.frev ?_) | ((with_reducible refine' R.zip_at ?g ?g' ?h); (case g => exact rfl); (case g' => exact rfl)) | (with_reducible refine R.eq_i ?_) | (with_reducible refine R.ne_i ?_) | (with_reducible refine R.sretN ?_)
  | (with_reducible refine R.sn ?_) | (with_reducible refine R.sc ?_) | (with_reducible refine R.sasg ?_) | (with_reducible refine R.spar ?_) | (with_reducible refine R.sexpr ?_) | (with_reducible refine R.sapp ?_) | (with_reducible refine R.sext ?_) | (with_reducible refine R.sret ?_) | (with_reducible refine R.site ?_) | (with_reducible refine R.sfor ?_)
  | ((with_reducible refine R.nd_ ?n ?h); (case n => first | exact R.nio rfl rfl | exact R.nio rfl (DL.NoOw.ok (by assumption)))) | ((with_reducible refine R.no_ ?n ?h); (case n => first | exact R.nio rfl rfl | exact R.nio rfl (DL.NoOw.ok (by assumption)))) | ((with_reducible refine R.nr_ ?n ?h); (case n => first | exact R.nio rfl rfl | exact R.nio rfl (DL.NoOw.ok (by assumption))))
  | ((with_reducible refine' R.an_name ?n ?h); (case n => first | assumption | exact R.nio rfl rfl | exact R.nio rfl (DL.NoOw.ok (by assumption)))) | ((with_reducible refine' R.an_two ?n ?m ?h); (case n => first | assumption | exact R.nio rfl rfl | exact R.nio rfl (DL.NoOw.ok (by assumption))); (case m => first | assumption | exact R.nio rfl rfl | exact R.nio rfl (DL.NoOw.ok (by assumption)))) | ((with_reducible refine' R.an_three ?n ?m ?o ?h); (case n => first | assumption | exact R.nio rfl rfl | exact R.nio rfl (DL.NoOw.ok (by assumption))); (case m => first | assumption | exact R.nio rfl rfl | exact R.nio rfl (DL.NoOw.ok (by assumption))); (case o => first | assumption | exact R.nio rfl rfl | exact R.nio rfl (DL.NoOw.ok (by assumption)))) | (with_reducible refine R.tt rfl ?_) | (with_reducible refine R.tn ?_) | (with_reducible refine R.tc ?_) | (with_reducible refine R.subd ?_) | ((with_reducible refine' R.own_and ?g ?h); (case g => exact rfl)) | ((with_reducible refine' R.put_at ?g ?g' ?h); (case g => exact rfl); (case g' => exact rfl)) | ((with_reducible refine' R.io_ref ?g ?h); (case g => exact rfl)) | (with_reducible refine R.io_own ?_) | (with_reducible refine R.one_1 ?_) | (with_reducible refine R.setn ?_) | (with_reducible refine R.setd ?_) | (with_reducible refine R.seto ?_) | (with_reducible refine R.setr ?_)
  | ((with_reducible refine' R.find ?g ?h); (case g => exact rfl)) | ((with_reducible refine' R.fino ?g ?h); (case g => exact rfl)) | ((with_reducible refine' R.finr ?g ?g' ?h); (case g => exact rfl); (case g' => exact rfl)) | ((with_reducible refine' R.find' ?g ?g' ?h); (case g => exact rfl); (case g' => exact rfl))
  | (with_reducible refine R.ifT ?_) | (with_reducible refine R.ifF ?_)
  | ((with_reducible refine' R.pow_i ?g ?h); (case g => decide)) | ((with_reducible refine' R.mul_i ?g ?h); (case g => exact mulOk 60 60 (by omega) (by omega) (by decide))) | ((with_reducible refine' R.fdiv_i ?g ?h); (case g => exact divOk (by omega) (by omega))) | ((with_reducible refine' R.mod_i ?g ?h); (case g => omega))
  | (with_reducible refine R.add_i ?_) | (with_reducible refine R.sub_i ?_) | (with_reducible refine R.lt_i ?_) | (with_reducible refine R.le_i ?_) | (with_reducible refine R.gt_i ?_) | (with_reducible refine R.ge_i ?_)
  | ((with_reducible refine' R.idx_l ?g ?h); (case g => exact rfl)) | ((with_reducible refine' R.idx_t ?g ?h); (case g => exact rfl)) | (with_reducible refine R.slc_l ?_) | (with_reducible refine R.slc_t ?_)
  | (with_reducible refine R.len_l ?_) | (with_reducible refine R.len_t ?_) | (with_reducible refine R.tuple_l ?_) | (with_reducible refine R.tuple_t ?_) | (with_reducible refine R.list_l ?_) | (with_reducible refine R.list_t ?_) | (with_reducible refine R.abs_i ?_) | (with_reducible refine R.int_i ?_) | (with_reducible refine R.gcd_i ?_)
  | (with_reducible refine R.isint ?_) | (with_reducible refine R.isbool ?_) | (with_reducible refine R.istuple ?_) | (with_reducible refine R.islist ?_)
  | (with_reducible refine R.sum_is ?_) | (with_reducible refine R.all_bs ?_) | ((with_reducible refine R.any_bs ?_))); (try dsimp only [List.map, List.set, Int.reduceToNat, Bool.not_true, Bool.not_false, DL.restR, DL.gt, DL.wipeR]))
open Mx (leE topE lowE En leE_trans leE_refl leE_total)
def oddD (l : List Smp) : D := match singles l with
  | k :: _ => .tuple [.int k]
  | [] => match prs l (List.range l.length) with
    | p :: _ => .tuple [.int p.1, .int p.2]
    | [] => .none
theorem emp_one {s : Smp} : emp (lo s) (hi s) = !letB [s] := rfl
theorem len_nil {l : List Smp} (h8 : l.length ≤ 8) : LenOk (l.length : Int).toNat := by unfold LenOk; rw [sizeLine_eq]; omega
theorem rngL {n k : Nat} {q : List D → Prop} (hn : n ≤ 8) (hk : k < n) (g : q ((List.range (n - (k + 1))).map fun (i : Nat) => PyData.int ((k + 1 + i : Nat) : Int))) : rngD [.int ((k : Int) + 1), .int n] q := by
  refine R.rng2 (by omega) (by unfold LenOk; rw [sizeLine_eq]; omega) ?_
  have e : ((n : Int) - ((k : Int) + 1)).toNat = n - (k + 1) := by omega
  rw [e]
  have e2 : (fun (i : Nat) => PyData.int ((k : Int) + 1 + (i : Int))) = fun (i : Nat) => PyData.int ((k + 1 + i : Nat) : Int) := by funext i; congr 1
  rw [e2]
  exact g
theorem lD_two {a b : Smp} : (.tuple [smpD a, smpD b] : D) = lD [a, b] := rfl
/-- both loops of pairs -/
theorem w_odd_ones {k : Nat} {l : List Smp} {Q E} (hl : Oks l) (h8 : l.length ≤ 8) (h : Q (.dat (oddD l)) []) : gam P (k + 8) "odd_ones" [.dat (lD l)] Q E := by
  refine R.opn Nd.nd (Has.mem (d := d_odd_ones)) rfl ?_
  simp only [d_odd_ones, List.map, List.replicate, List.length_cons, List.length_nil, List.cons_append, List.nil_append, Nat.reduceAdd, Nat.reduceSub]
  simp only [lD, map_tabS]
  (repeat walk_at "w1")
  rw [tab_enum]
  refine for_l (α := Nat) (σ := Option Sl × Option Sl) (fun i => .tuple [.int i, smpD (nth l i)]) (fun t => [some (.dat (.tuple (tab l.length fun i => smpD (nth l i)))), t.1, t.2, none, none, none])
    (fun js t => NoOw t.1 ∧ NoOw t.2 ∧ (∀ j ∈ js, j < l.length) ∧ (js.filter fun k => !letB [nth l k]) = singles l) ?_ ?_ (List.range l.length) (none, none) ⟨.n, .n, fun j hj => List.mem_range.mp hj, rfl⟩
  · rintro j js ⟨x, y⟩ nx ⟨hx, hy, hj, hs⟩ hn
    simp only at hx hy hj hs
    have hj' := hj j List.mem_cons_self
    have oj := hl.2 _ (nth_mem hj')
    refine R.an_two (R.nio rfl hx.ok) (R.nio rfl hy.ok) ?_
    (repeat walk_at "w1")
    refine w_low_end oj ?_
    (repeat walk_at "w1")
    refine w_high_end oj ?_
    (repeat walk_at "w1")
    refine w_is_empty (lo_ok oj) (hi_ok oj) ?_
    dsimp only
    rw [emp_one]
    refine R.iteB (fun g => ?_) fun g => ?_
    · rw [List.filter_cons, if_pos g] at hs
      (repeat walk_at "w1")
      unfold oddD at h
      rw [← hs] at h
      exact h
    · rw [List.filter_cons, if_neg (by rw [g]; simp)] at hs
      (repeat walk_at "w1")
      exact hn (_, _) ⟨.d, .d, fun i hi => hj i (List.mem_cons_of_mem _ hi), hs⟩
  · rintro ⟨x, y⟩ ⟨hx, hy, hj, hs⟩
    simp only at hx hy hj hs
    have hs : singles l = [] := hs.symm
    unfold oddD at h
    rw [hs] at h
    dsimp only at h
    (repeat walk_at "w1")
    rw [tab_len]
    refine R.rng1 (by omega) (len_nil h8) ?_
    refine for_l (α := Nat) (σ := Option Sl × Option Sl × Option Sl × Option Sl) (fun i => .int (i : Int)) (fun t => [some (.dat (.tuple (tab l.length fun i => smpD (nth l i)))), t.1, y, t.2.1, t.2.2.1, t.2.2.2])
      (fun ks t => NoOw t.1 ∧ NoOw t.2.1 ∧ NoOw t.2.2.1 ∧ NoOw t.2.2.2 ∧ (∀ k ∈ ks, k < l.length) ∧ prs l ks = prs l (List.range l.length)) ?_ ?_ (List.range l.length) (x, none, none, none) ⟨hx, .n, .n, .n, fun j hj => List.mem_range.mp hj, rfl⟩
    · rintro a ks ⟨x, z, u, v⟩ nx ⟨hx, hz, hu, hv, hk, hp⟩ hn
      simp only at hx hz hu hv hk hp
      have ha := hk a List.mem_cons_self
      refine R.an_name (R.nio rfl hx.ok) ?_
      (repeat walk_at "w1")
      rw [tab_len]
      refine rngL h8 ha ?_
      refine for_l (α := Nat) (σ := Option Sl × Option Sl × Option Sl) (fun i => .int ((a + 1 + i : Nat) : Int)) (fun t => [some (.dat (.tuple (tab l.length fun i => smpD (nth l i)))), some (.dat (.int a)), y, t.1, t.2.1, t.2.2])
        (fun js t => NoOw t.1 ∧ NoOw t.2.1 ∧ NoOw t.2.2 ∧ (∀ j ∈ js, a + 1 + j < l.length) ∧ (js.filter fun j => !letB [nth l a, nth l (a + 1 + j)]).map (fun j => (a, a + 1 + j)) ++ prs l ks = prs l (List.range l.length)) ?_ ?_ (List.range (l.length - (a + 1))) (z, u, v) ⟨hz, hu, hv, fun j hj => by have := List.mem_range.mp hj; omega, by rw [← hp]; unfold prs; rw [List.flatMap_cons]⟩
      · rintro j js ⟨z, u, v⟩ nx' ⟨hz, hu, hv, hj, hq⟩ hn'
        simp only at hz hu hv hj hq
        have hj' := hj j List.mem_cons_self
        have o2 := oks2 hl ha hj'
        refine R.an_name (R.nio rfl hz.ok) ?_
        (repeat walk_at "w1")
        refine R.idx_t (tab_at ha) ?_
        (repeat walk_at "w1")
        refine R.idx_t (tab_at hj') ?_
        (repeat walk_at "w1")
        rw [lD_two]
        refine w_ends_by o2 ?_
        refine R.tt rfl ?_
        refine R.tc ?_
        refine R.nd_ (R.nio rfl hu.ok) ?_
        refine R.tc ?_
        refine R.nd_ (R.nio rfl hv.ok) ?_
        (repeat walk_at "w1")
        refine w_is_empty (tops_ok o2) (lows_ok o2) ?_
        dsimp only
        rw [letB_emp]
        refine R.iteB (fun g => ?_) fun g => ?_
        · rw [List.filter_cons, if_pos g] at hq
          (repeat walk_at "w1")
          rw [← hq] at h
          exact h
        · rw [List.filter_cons, if_neg (by rw [g]; simp)] at hq
          (repeat walk_at "w1")
          exact hn' (_, _, _) ⟨.d, .d, .d, fun i hi => hj i (List.mem_cons_of_mem _ hi), hq⟩
      · rintro ⟨z, u, v⟩ ⟨hz, hu, hv, hj, hq⟩
        exact hn (_, _, _, _) ⟨.d, hz, hu, hv, fun i hi => hk i (List.mem_cons_of_mem _ hi), hq⟩
    · rintro ⟨x, z, u, v⟩ ⟨hx, hz, hu, hv, hk, hp⟩
      (repeat walk_at "w1")
      rw [← hp] at h
      exact h
theorem cutG_take {xs : List D} {i : Nat} (hi : i ≤ xs.length) : cutD xs none (some (i : Int)) = xs.take i := by
  unfold cutD
  rw [HT.sIx_none, HT.sIx_nat, Nat.min_eq_left (by omega)]
  simp
theorem cutG_drop {xs : List D} {i : Nat} (hi : i < xs.length) : cutD xs (some ((i : Int) + 1)) none = xs.drop (i + 1) := by
  unfold cutD
  rw [show ((i : Int) + 1) = ((i + 1 : Nat) : Int) by omega, HT.sIx_none, HT.sIx_nat, Nat.min_eq_left (by omega)]
  apply List.take_of_length_le
  rw [List.length_drop]
  exact Nat.le_refl _
theorem cut_one {n k : Nat} {f : Nat → D} (hk : k < n) : cutD (tab n f) (some (k : Int)) (some ((k : Int) + 1)) = [f k] := by
  unfold cutD
  rw [show ((k : Int) + 1) = ((k + 1 : Nat) : Int) by omega, HT.sIx_nat, HT.sIx_nat, tab_len, Nat.min_eq_left (by omega), Nat.min_eq_left (by omega), show k + 1 - k = 1 by omega]
  have hl : k < (tab n f).length := by rw [tab_len]; exact hk
  rw [List.drop_eq_getElem_cons hl]
  simp [tab]
theorem wl_odd_ones {k : Nat} {l : List Smp} {Q E} (hl : Oks l) (h8 : l.length ≤ 8) (h : Q (.dat (oddD l)) []) : gam P (k + 8) "_law_odd_ones" [.dat (lD l)] Q E := by
  refine R.opn Nd.nd (Has.mem (d := d__law_odd_ones)) rfl ?_
  simp only [d__law_odd_ones, List.map, List.replicate, List.length_cons, List.length_nil, List.cons_append, List.nil_append, Nat.reduceAdd, Nat.reduceSub]
  (repeat walk_at "w1")
  refine wl_is_let hl ?_
  dsimp only
  cases gl : letB l with
  | true =>
    obtain ⟨a, b⟩ := odd_none hl gl
    unfold oddD at h
    rw [a, b] at h
    refine R.ifT ?_
    (repeat walk_at "w1")
    exact h
  | false =>
  have some1 := odd_some hl gl
  refine R.ifF ?_
  simp only [lD, map_tabS]
  (repeat walk_at "w1")
  rw [tab_len]
  refine R.rng1 (by omega) (len_nil h8) ?_
  refine for_l (α := Nat) (σ := Option Sl) (fun i => .int (i : Int)) (fun t => [some (.dat (.tuple (tab l.length fun i => smpD (nth l i)))), t, none])
    (fun js t => NoOw t ∧ (∀ j ∈ js, j < l.length) ∧ (js.filter fun k => !letB [nth l k]) = singles l) ?_ ?_ (List.range l.length) none ⟨.n, fun j hj => List.mem_range.mp hj, rfl⟩
  · rintro j js x nx ⟨hx, hj, hs⟩ hn
    have hj' := hj j List.mem_cons_self
    refine R.an_name (R.nio rfl hx.ok) ?_
    (repeat walk_at "w1")
    rw [cut_one hj']
    (repeat walk_at "w1")
    refine wl_is_let (l := [nth l j]) (oks1 hl hj') ?_
    dsimp only
    refine R.iteB (fun g => ?_) fun g => ?_
    · rw [List.filter_cons, if_pos g] at hs
      (repeat walk_at "w1")
      unfold oddD at h
      rw [← hs] at h
      exact h
    · rw [List.filter_cons, if_neg (by rw [g]; simp)] at hs
      (repeat walk_at "w1")
      exact hn _ ⟨.d, fun i hi => hj i (List.mem_cons_of_mem _ hi), hs⟩
  · rintro x ⟨hx, hj, hs⟩
    have hs : singles l = [] := hs.symm
    unfold oddD at h
    rw [hs] at h
    dsimp only at h
    (repeat walk_at "w1")
    rw [tab_len]
    refine R.rng1 (by omega) (len_nil h8) ?_
    refine for_l (α := Nat) (σ := Option Sl × Option Sl) (fun i => .int (i : Int)) (fun t => [some (.dat (.tuple (tab l.length fun i => smpD (nth l i)))), t.1, t.2])
      (fun ks t => NoOw t.1 ∧ NoOw t.2 ∧ (∀ k ∈ ks, k < l.length) ∧ prs l ks = prs l (List.range l.length)) ?_ ?_ (List.range l.length) (x, none) ⟨hx, .n, fun j hj => List.mem_range.mp hj, rfl⟩
    · rintro a ks ⟨x, z⟩ nx ⟨hx, hz, hk, hp⟩ hn
      simp only at hx hz hk hp
      have ha := hk a List.mem_cons_self
      refine R.an_name (R.nio rfl hx.ok) ?_
      (repeat walk_at "w1")
      rw [tab_len]
      refine rngL h8 ha ?_
      refine for_l (α := Nat) (σ := Option Sl) (fun i => .int ((a + 1 + i : Nat) : Int)) (fun t => [some (.dat (.tuple (tab l.length fun i => smpD (nth l i)))), some (.dat (.int a)), t])
        (fun js t => NoOw t ∧ (∀ j ∈ js, a + 1 + j < l.length) ∧ (js.filter fun j => !letB [nth l a, nth l (a + 1 + j)]).map (fun j => (a, a + 1 + j)) ++ prs l ks = prs l (List.range l.length)) ?_ ?_ (List.range (l.length - (a + 1))) z ⟨hz, fun j hj => by have := List.mem_range.mp hj; omega, by rw [← hp]; unfold prs; rw [List.flatMap_cons]⟩
      · rintro j js z nx' ⟨hz, hj, hq⟩ hn'
        have hj' := hj j List.mem_cons_self
        have o2 := oks2 hl ha hj'
        refine R.an_name (R.nio rfl hz.ok) ?_
        (repeat walk_at "w1")
        refine R.idx_t (tab_at ha) ?_
        (repeat walk_at "w1")
        refine R.idx_t (tab_at hj') ?_
        (repeat walk_at "w1")
        rw [lD_two]
        refine wl_is_let o2 ?_
        dsimp only
        refine R.iteB (fun g => ?_) fun g => ?_
        · rw [List.filter_cons, if_pos g] at hq
          (repeat walk_at "w1")
          rw [← hq] at h
          exact h
        · rw [List.filter_cons, if_neg (by rw [g]; simp)] at hq
          (repeat walk_at "w1")
          exact hn' _ ⟨.d, fun i hi => hj i (List.mem_cons_of_mem _ hi), hq⟩
      · rintro z ⟨hz, hj, hq⟩
        exact hn (_, _) ⟨.d, hz, fun i hi => hk i (List.mem_cons_of_mem _ hi), hq⟩
    · rintro ⟨x, z⟩ ⟨hx, hz, hk, hp⟩
      exact (some1 hs hp.symm).elim
end K91
--GEN /tmp/w/o/K91a.lean
namespace K91
open PySem DL L2 Lib
local macro_rules | `(tactic| walk_at "w1") => `(tactic| (first
  | (with_reducible refine R.lit ?_) | (with_reducible refine R.con ?_)
  | ((with_reducible refine' R.var ?g ?h); (case g => exact rfl))
  | ((with_reducible refine' R.varO ?g ?h); (case g => exact rfl))
  | (with_reducible refine R.op2 ?_) | (with_reducible refine R.cmp ?_) | (with_reducible refine R.idx ?_) | (with_reducible refine R.slc ?_) | (with_reducible refine R.oN ?_) | (with_reducible refine R.oS ?_)
  | (with_reducible refine R.tcmp ?_) | (with_reducible refine R.tnot ?_) | (with_reducible refine R.tand ?_) | (with_reducible refine R.tor ?_) | (with_reducible refine R.tcall ?_) | (with_reducible refine R.tbi ?_) | (with_reducible refine R.tisN ?_) | (with_reducible refine R.tnotN ?_) | (with_reducible refine R.tchain ?_) | (with_reducible refine R.tvar ?_) | (with_reducible refine R.tcallK ?_)
  | (with_reducible refine R.isN ?_) | (with_reducible refine R.notN ?_) | (with_reducible refine R.chain ?_) | (with_reducible refine R.neg ?_) | (with_reducible refine R.not ?_) | (with_reducible refine R.and ?_) | (with_reducible refine R.or ?_) | (with_reducible refine R.ife ?_)
  | (with_reducible refine R.tup ?_) | (with_reducible refine R.lst ?_) | (with_reducible refine R.call ?_) | (with_reducible refine R.callK ?_) | (with_reducible refine R.callIo ?_) | (with_reducible refine R.bi ?_) | (with_reducible refine R.comp ?_) | (with_reducible refine R.index ?_) | (with_reducible refine R.repL ?_) | (with_reducible refine R.listR ?_)
  | (with_reducible refine R.an ?_) | (with_reducible refine R.ac ?_) | (with_reducible refine R.en ?_) | (with_reducible refine R.ec ?_) | (with_reducible refine R.ed ?_) | (with_reducible refine R.eo ?_)
  | ((with_reducible refine' R.erd ?g ?h); (case g => exact rfl)) | ((with_reducible refine' R.ero ?g ?h); (case g => exact rfl))
  | ((with_reducible refine' R.w1 ?g ?h); (case g => exact rfl)) | ((with_reducible refine' R.w2 ?g ?g' ?h); (case g => exact rfl); (case g' => exact rfl)) | ((with_reducible refine' R.ws ?g ?h); (case g => exact rfl))
  | (with_reducible refine R.fval rfl ?_) | (with_reducible refine R.f_l ?_) | (with_reducible refine R.f_t ?_) | (with_reducible refine R.ival rfl ?_) | (with_reducible refine R.i_l ?_) | (with_reducible refine R.i_t ?_) | (with_reducible refine R.i_o ?_) | ((with_reducible refine' R.i_r ?g ?h); (case g => exact rfl))
  | (with_reducible refine R.irange ?_) | (with_reducible refine R.frange ?_) | (with_reducible refine R.ienum ?_) | (with_reducible refine R.fenum ?_) | (with_reducible refine R.izip ?_) | (with_reducible refine R.fzip ?_) | (with_reducible refine R.irev ?_) | (with_reducible refine R.frev ?_) | ((with_reducible refine' R.zip_at ?g ?g' ?h); (case g => exact rfl); (case g' => exact rfl)) | (with_reducible refine R.eq_i ?_) | (with_reducible refine R.ne_i ?_) | (with_reducible refine R.sretN ?_)
  | (with_reducible refine R.sn ?_) | (with_reducible refine R.sc ?_) | (with_reducible refine R.sasg ?_) | (with_reducible refine R.spar ?_) | (with_reducible refine R.sexpr ?_) | (with_reducible refine R.sapp ?_) | (with_reducible refine R.sext ?_) | (with_reducible refine R.sret ?_) | (with_reducible refine R.site ?_) | (with_reducible refine R.sfor ?_)
  | ((with_reducible refine R.nd_ ?n ?h); (case n => first | exact R.nio rfl rfl | exact R.nio rfl (DL.NoOw.ok (by assumption)))) | ((with_reducible refine R.no_ ?n ?h); (case n => first | exact R.nio rfl rfl | exact R.nio rfl (DL.NoOw.ok (by assumption)))) | ((with_reducible refine R.nr_ ?n ?h); (case n => first | exact R.nio rfl rfl | exact R.nio rfl (DL.NoOw.ok (by assumption))))
  | ((with_reducible refine' R.an_name ?n ?h); (case n => first | assumption | exact R.nio rfl rfl | exact R.nio rfl (DL.NoOw.ok (by assumption)))) | ((with_reducible refine' R.an_two ?n ?m ?h); (case n => first | assumption | exact R.nio rfl rfl | exact R.nio rfl (DL.NoOw.ok (by assumption))); (case m => first | assumption | exact R.nio rfl rfl | exact R.nio rfl (DL.NoOw.ok (by assumption)))) | ((with_reducible refine' R.an_three ?n ?m ?o ?h); (case n => first | assumption | exact R.nio rfl rfl | exact R.nio rfl (DL.NoOw.ok (by assumption))); (case m => first | assumption | exact R.nio rfl rfl | exact R.nio rfl (DL.NoOw.ok (by assumption))); (case o => first | assumption | exact R.nio rfl rfl | exact R.nio rfl (DL.NoOw.ok (by assumption)))) | (with_reducible refine R.tt rfl ?_) | (with_reducible refine R.tn ?_) | (with_reducible refine R.tc ?_) | (with_reducible refine R.subd ?_) | ((with_reducible refine' R.own_and ?g ?h); (case g => exact rfl)) | ((with_reducible refine' R.put_at ?g ?g' ?h); (case g => exact rfl); (case g' => exact rfl)) | ((with_reducible refine' R.io_ref ?g ?h); (case g => exact rfl)) | (with_reducible refine R.io_own ?_) | (with_reducible refine R.one_1 ?_) | (with_reducible refine R.setn ?_) | (with_reducible refine R.setd ?_) | (with_reducible refine R.seto ?_) | (with_reducible refine R.setr ?_)
  | ((with_reducible refine' R.find ?g ?h); (case g => exact rfl)) | ((with_reducible refine' R.fino ?g ?h); (case g => exact rfl)) | ((with_reducible refine' R.finr ?g ?g' ?h); (case g => exact rfl); (case g' => exact rfl)) | ((with_reducible refine' R.find' ?g ?g' ?h); (case g => exact rfl); (case g' => exact rfl))
  | (with_reducible refine R.ifT ?_) | (with_reducible refine R.ifF ?_)
  | ((with_reducible refine' R.pow_i ?g ?h); (case g => decide)) | ((with_reducible refine' R.mul_i ?g ?h); (case g => exact mulOk 60 60 (by omega) (by omega) (by decide))) | ((with_reducible refine' R.fdiv_i ?g ?h); (case g => exact divOk (by omega) (by omega))) | ((with_reducible refine' R.mod_i ?g ?h); (case g => omega))
  | (with_reducible refine R.add_i ?_) | (with_reducible refine R.sub_i ?_) | (with_reducible refine R.lt_i ?_) | (with_reducible refine R.le_i ?_) | (with_reducible refine R.gt_i ?_) | (with_reducible refine R.ge_i ?_)
  | ((with_reducible refine' R.idx_l ?g ?h); (case g => exact rfl)) | ((with_reducible refine' R.idx_t ?g ?h); (case g => exact rfl)) | (with_reducible refine R.slc_l ?_) | (with_reducible refine R.slc_t ?_)
  | (with_reducible refine R.len_l ?_) | (with_reducible refine R.len_t ?_) | (with_reducible refine R.tuple_l ?_) | (with_reducible refine R.tuple_t ?_) | (with_reducible refine R.list_l ?_) | (with_reducible refine R.list_t ?_) | (with_reducible refine R.abs_i ?_) | (with_reducible refine R.int_i ?_) | (with_reducible refine R.gcd_i ?_)
  | (with_reducible refine R.isint ?_) | (with_reducible refine R.isbool ?_) | (with_reducible refine R.istuple ?_) | (with_reducible refine R.islist ?_)
  | (with_reducible refine R.sum_is ?_) | (with_reducible refine R.all_bs ?_) | ((with_reducible refine R.any_bs ?_))); (try dsimp only [List.map, List.set, Int.reduceToNat, Bool.not_true, Bool.not_false, DL.restR, DL.gt, DL.wipeR]))
open Mx (leE topE lowE En leE_trans leE_refl leE_total)
theorem w_same_end {k : Nat} {e f : Rat × Nat} {Q E} (he : Eo e) (hf : Eo f) (h : Q (.dat (.bool (eqE e f))) []) : gam P (k + 3) "same_end" [.dat (endD e), .dat (endD f)] Q E := by
  unfold eqE at h
  rw [Bool.and_comm] at h
  refine R.opn Nd.nd (Has.mem (d := d_same_end)) rfl ?_
  simp only [d_same_end, List.map, List.replicate, List.length_cons, List.length_nil, List.cons_append, List.nil_append, Nat.reduceAdd, Nat.reduceSub]
  (repeat walk_at "w1")
  refine w_is_end_below he hf ?_
  (repeat walk_at "w1")
  cases g : decide (leE f e) with
  | false =>
    rw [g] at h
    refine R.ifF ?_
    (repeat walk_at "w1")
    exact h
  | true =>
    rw [g] at h
    refine R.ifT ?_
    (repeat walk_at "w1")
    refine w_is_end_below hf he ?_
    (repeat walk_at "w1")
    rw [Bool.not_not]
    exact h
theorem w_same_stretch {k : Nat} {l r : List Smp} {Q E} (hl : Oks l) (hr : Oks r) (h : Q (.dat (.bool (sameB l r))) []) : gam P (k + 8) "same_stretch" [.dat (lD l), .dat (lD r)] Q E := by
  have a1 := tops_ok hl
  have a2 := lows_ok hl
  have b1 := tops_ok hr
  have b2 := lows_ok hr
  unfold sameB at h
  refine R.opn Nd.nd (Has.mem (d := d_same_stretch)) rfl ?_
  simp only [d_same_stretch, List.map, List.replicate, List.length_cons, List.length_nil, List.cons_append, List.nil_append, Nat.reduceAdd, Nat.reduceSub]
  (repeat walk_at "w1")
  refine w_ends_by hl ?_
  (repeat walk_at "w1")
  refine w_ends_by hr ?_
  (repeat walk_at "w1")
  refine w_is_empty a1 a2 ?_
  dsimp only
  rw [letB_emp]
  cases gl : letB l with
  | false =>
    rw [gl] at h
    refine R.ifT ?_
    (repeat walk_at "w1")
    refine w_is_empty a1 a2 ?_
    (repeat walk_at "w1")
    rw [letB_emp, gl]
    refine R.ifT ?_
    (repeat walk_at "w1")
    refine w_is_empty b1 b2 ?_
    (repeat walk_at "w1")
    rw [letB_emp]
    exact h
  | true =>
  refine R.ifF ?_
  (repeat walk_at "w1")
  refine w_is_empty b1 b2 ?_
  dsimp only
  rw [letB_emp]
  cases gr : letB r with
  | false =>
    rw [gl, gr] at h
    refine R.ifT ?_
    (repeat walk_at "w1")
    refine w_is_empty a1 a2 ?_
    (repeat walk_at "w1")
    rw [letB_emp, gl]
    refine R.ifF ?_
    (repeat walk_at "w1")
    exact h
  | true =>
  rw [gl, gr, if_pos rfl, if_pos rfl] at h
  refine R.ifF ?_
  (repeat walk_at "w1")
  refine w_same_end a2 b2 ?_
  dsimp only
  cases g1 : eqE (lows l) (lows r) with
  | false =>
    rw [g1] at h
    refine R.ifT ?_
    (repeat walk_at "w1")
    exact h
  | true =>
  rw [g1, Bool.true_and] at h
  refine R.ifF ?_
  simp only [endD]
  (repeat walk_at "w1")
  refine w_is_below (a := 1) sz_1 a1.sz (by omega) ?_
  (repeat walk_at "w1")
  refine w_is_below (a := 1) sz_1 b1.sz (by omega) ?_
  (repeat walk_at "w1")
  cases g2 : decide (1 < (tops l).1) with
  | true =>
    rw [g2] at h
    refine R.ifF ?_
    (repeat walk_at "w1")
    refine w_same_end a1 b1 ?_
    (repeat walk_at "w1")
    exact h
  | false =>
    rw [g2] at h
    refine R.ifT ?_
    (repeat walk_at "w1")
    cases g3 : decide (1 < (tops r).1) with
    | false =>
      rw [g3] at h
      (repeat walk_at "w1")
      exact h
    | true =>
      rw [g3] at h
      refine R.ifF ?_
      (repeat walk_at "w1")
      refine w_same_end a1 b1 ?_
      (repeat walk_at "w1")
      exact h
theorem drop_sub {l : List Smp} (hl : Oks l) (i : Nat) : ∀ s ∈ dropS l i, Ok s := fun s hs => by
  unfold dropS at hs
  rcases List.mem_append.mp hs with q | q
  · exact hl.2 s (List.mem_of_mem_take q)
  · exact hl.2 s (List.mem_of_mem_drop q)
theorem drop_cut {l : List Smp} {i : Nat} (hi : i < l.length) : cutD (l.map smpD) none (some (i : Int)) ++ cutD (l.map smpD) (some ((i : Int) + 1)) none = (dropS l i).map smpD := by
  rw [cutG_take (by rw [List.length_map]; omega), cutG_drop (by rw [List.length_map]; exact hi)]
  unfold dropS
  rw [List.map_append, List.map_take, List.map_drop]
theorem drop_len {l : List Smp} {i : Nat} (hi : i < l.length) : (cutD (l.map smpD) none (some (i : Int))).length + (cutD (l.map smpD) (some ((i : Int) + 1)) none).length ≤ l.length := by
  rw [cutG_take (by rw [List.length_map]; omega), cutG_drop (by rw [List.length_map]; exact hi)]
  simp
  omega
theorem w_needless {k : Nat} {l : List Smp} {Q E} (hl : Oks l) (h8 : l.length ≤ 8) (h : Q (.dat (.tuple (((List.range l.length).filter (needB l)).map fun (i : Nat) => .int (i : Int)))) []) : gam P (k + 9) "needless_samples" [.dat (lD l)] Q E := by
  have e : lD l = .tuple (l.map smpD) := rfl
  refine R.opn Nd.nd (Has.mem (d := d_needless_samples)) rfl ?_
  simp only [d_needless_samples, List.map, List.replicate, List.length_cons, List.length_nil, List.cons_append, List.nil_append, Nat.reduceAdd, Nat.reduceSub]
  (repeat walk_at "w1")
  refine w_check_samples hl h8 ?_
  rw [e]
  (repeat walk_at "w1")
  rw [List.length_map]
  refine R.rng1 (by omega) (len_nil h8) ?_
  refine for_l (α := Nat) (σ := List Nat × Option Sl × Option Sl) (fun i => .int (i : Int)) (fun t => [some (.dat (.tuple (l.map smpD))), some (.own false (t.1.map fun (i : Nat) => .int (i : Int))), t.2.1, t.2.2])
    (fun is t => NoOw t.2.1 ∧ NoOw t.2.2 ∧ (∀ i ∈ is, i < l.length) ∧ t.1.length + is.length ≤ 8 ∧ t.1 ++ is.filter (needB l) = (List.range l.length).filter (needB l)) ?_ ?_ (List.range l.length) ([], none, none) ⟨.n, .n, fun j hj => List.mem_range.mp hj, by simp; omega, by simp⟩
  · rintro i is ⟨acc, x, y⟩ nx ⟨hx, hy, hi, hc, hq⟩ hn
    simp only at hx hy hi hc hq
    simp only [List.length_cons] at hc
    have hi' := hi i List.mem_cons_self
    have hd := drop_sub hl i
    have dl := drop_len hi'
    refine R.an_name (R.nio rfl hx.ok) ?_
    (repeat walk_at "w1")
    refine R.add_t (by unfold LenOk; rw [sizeLine_eq]; omega) ?_
    rw [drop_cut hi']
    (repeat walk_at "w1")
    rw [show PyData.tuple ((dropS l i).map smpD) = lD (dropS l i) from rfl]
    refine lD_ne hd ?_
    have skip : needB l i = false → nx [some (.dat (.tuple (l.map smpD))), some (.own false (acc.map fun (i : Nat) => .int (i : Int))), some (.dat (.int i)), some (.dat (lD (dropS l i)))] := fun g => by
      rw [List.filter_cons, if_neg (by rw [g]; simp)] at hq
      exact hn (acc, _, _) ⟨.d, .d, fun j hj => hi j (List.mem_cons_of_mem _ hj), by simp only; omega, hq⟩
    cases ge : (dropS l i).isEmpty with
    | true =>
      have key := skip (by unfold needB; rw [ge]; rfl)
      (repeat walk_at "w1")
      refine R.ifF ?_
      (repeat walk_at "w1")
      exact key
    | false =>
      have od : Oks (dropS l i) := ⟨fun z => (by rw [z] at ge; cases ge), hd⟩
      (repeat walk_at "w1")
      refine R.ifT ?_
      (repeat walk_at "w1")
      refine w_same_stretch hl od ?_
      dsimp only
      have en : needB l i = sameB l (dropS l i) := by unfold needB; rw [ge]; rfl
      rw [← en]
      cases g : needB l i with
      | false =>
        have key := skip g
        refine R.ifF ?_
        (repeat walk_at "w1")
        exact key
      | true =>
        rw [List.filter_cons, if_pos g] at hq
        refine R.ifT ?_
        (repeat walk_at "w1")
        refine R.app_at rfl (by rw [sizeLine_eq, List.length_map]; omega) ?_
        have key := hn (acc ++ [i], some (.dat (.int i)), some (.dat (lD (dropS l i)))) ⟨.d, .d, fun j hj => hi j (List.mem_cons_of_mem _ hj), by simp only [List.length_append, List.length_singleton]; omega, by rw [← hq]; simp⟩
        simp only [List.map_append, List.map_cons, List.map_nil] at key
        (repeat walk_at "w1")
        exact key
  · rintro ⟨acc, x, y⟩ ⟨hx, hy, hi, hc, hq⟩
    simp only at hx hy hi hc hq
    rw [List.filter_nil, List.append_nil] at hq
    subst hq
    (repeat walk_at "w1")
    exact h
theorem bool_ne {a b : Bool} {kb : Bool → Prop} (h : kb (a != b)) : cmpD .ne (.bool a) (.bool b) kb := by
  refine R.ne_d (by unfold shp; rfl) (by unfold shp; rfl) ?_
  have : (!PyData.eqv (.bool a) (.bool b)) = (a != b) := by cases a <;> cases b <;> rfl
  rw [this]; exact h
theorem bool_eq2 {a b c d : Bool} {kb : Bool → Prop} (h : kb ((a == c) && (b == d))) : cmpD .eq (.list [.bool a, .bool b]) (.list [.bool c, .bool d]) kb := by
  refine R.eq_d (by unfold shp; rfl) (by unfold shp; rfl) ?_
  have : (PyData.eqv (.list [.bool a, .bool b]) (.list [.bool c, .bool d])) = ((a == c) && (b == d)) := by cases a <;> cases b <;> cases c <;> cases d <;> rfl
  rw [this]; exact h
theorem wl_is_needless {k i : Nat} {l : List Smp} {Q E} (hl : Oks l) (h8 : l.length ≤ 8) (hi : i < l.length) (h : Q (.dat (.bool (needB l i))) []) : gam P (k + 8) "_law_is_needless" [.dat (lD l), .dat (.int i)] Q E := by
  have e : lD l = .tuple (l.map smpD) := rfl
  have hd := drop_sub hl i
  have dl := drop_len hi
  have a1 := tops_ok hl
  have a2 := lows_ok hl
  refine R.opn Nd.nd (Has.mem (d := d__law_is_needless)) rfl ?_
  simp only [d__law_is_needless, List.map, List.replicate, List.length_cons, List.length_nil, List.cons_append, List.nil_append, Nat.reduceAdd, Nat.reduceSub]
  rw [e]
  (repeat walk_at "w1")
  refine R.add_t (by unfold LenOk; rw [sizeLine_eq]; omega) ?_
  rw [drop_cut hi]
  (repeat walk_at "w1")
  rw [show PyData.tuple ((dropS l i).map smpD) = lD (dropS l i) from rfl, ← e]
  refine lD_eq hd ?_
  (repeat walk_at "w1")
  cases ge : (dropS l i).isEmpty with
  | true =>
    have en : needB l i = false := by unfold needB; rw [ge]; rfl
    rw [en] at h
    refine R.ifT ?_
    (repeat walk_at "w1")
    exact h
  | false =>
  have od : Oks (dropS l i) := ⟨fun z => (by rw [z] at ge; cases ge), hd⟩
  have b1 := tops_ok od
  have b2 := lows_ok od
  have en : needB l i = sameB l (dropS l i) := by unfold needB; rw [ge]; rfl
  rw [en] at h
  unfold sameB at h
  generalize dropS l i = r at *
  refine R.ifF ?_
  (repeat walk_at "w1")
  refine wl_is_let hl ?_
  (repeat walk_at "w1")
  refine wl_is_let od ?_
  (repeat walk_at "w1")
  refine bool_ne ?_
  (repeat walk_at "w1")
  cases gl : letB l with
  | false =>
    rw [gl, if_neg (by simp)] at h
    cases gr : letB r with
    | true =>
      rw [gr] at h
      refine R.ifT ?_
      (repeat walk_at "w1")
      exact h
    | false =>
      rw [gr] at h
      refine R.ifF ?_
      (repeat walk_at "w1")
      refine wl_is_let hl ?_
      dsimp only
      rw [gl]
      refine R.ifT ?_
      (repeat walk_at "w1")
      exact h
  | true =>
    rw [gl, if_pos rfl] at h
    cases gr : letB r with
    | false =>
      rw [gr] at h
      refine R.ifT ?_
      (repeat walk_at "w1")
      exact h
    | true =>
      rw [gr, if_pos rfl] at h
      refine R.ifF ?_
      (repeat walk_at "w1")
      refine wl_is_let hl ?_
      dsimp only
      rw [gl]
      refine R.ifF ?_
      (repeat walk_at "w1")
      refine wl_ends_of hl ?_
      (repeat walk_at "w1")
      refine wl_ends_of od ?_
      (repeat walk_at "w1")
      refine ⟨noOwn1 rfl, ?_⟩
      simp only [wpo, wipeR]
      refine comp_l (α := (Rat × Nat) × (Rat × Nat)) (fun p => .tuple [endD p.1, endD p.2]) (fun p => .bool (decide (1 < p.1.1))) rfl (fun _ => rfl) (by trivial) [(tops l, lows l), (tops r, lows r)] [] (fun p hp nx hn => ?_) ?_
      · have hz : Sz 250 p.1.1 := by
          simp only [List.mem_cons, List.not_mem_nil, or_false] at hp
          rcases hp with rfl | rfl
          · exact a1.sz
          · exact b1.sz
        simp only [endD]
        (repeat walk_at "w1")
        refine wl_side (b := 1) hz sz_1 (by omega) ?_
        (repeat walk_at "w1")
        rw [side_pos, ← lt_dec]
        exact hn
      (repeat walk_at "w1")
      refine a2.rt b2 ?_
      (repeat walk_at "w1")
      rw [roots_eq]
      cases g1 : eqE (lows l) (lows r) with
      | false =>
        rw [g1] at h
        refine R.ifF ?_
        (repeat walk_at "w1")
        exact h
      | true =>
      rw [g1, Bool.true_and] at h
      refine R.ifT ?_
      (repeat walk_at "w1")
      refine bool_eq2 ?_
      (repeat walk_at "w1")
      cases g2 : decide (1 < (tops l).1) with
      | true =>
        rw [g2] at h
        refine R.ifF ?_
        (repeat walk_at "w1")
        refine a1.rt b1 ?_
        (repeat walk_at "w1")
        rw [roots_eq]
        exact h
      | false =>
        rw [g2] at h
        cases g3 : decide (1 < (tops r).1) with
        | false =>
          rw [g3] at h
          refine R.ifT ?_
          (repeat walk_at "w1")
          exact h
        | true =>
          rw [g3] at h
          refine R.ifF ?_
          (repeat walk_at "w1")
          refine a1.rt b1 ?_
          (repeat walk_at "w1")
          rw [roots_eq]
          exact h
end K91
--GEN /tmp/w/o/K91a.lean
namespace K91
open PySem DL L2 Lib
local macro_rules | `(tactic| walk_at "w1") => `(tactic| (first
  | (with_reducible refine R.lit ?_) | (with_reducible refine R.con ?_)
  | ((with_reducible refine' R.var ?g ?h); (case g => exact rfl))
  | ((with_reducible refine' R.varO ?g ?h); (case g => exact rfl))
  | (with_reducible refine R.op2 ?_) | (with_reducible refine R.cmp ?_) | (with_reducible refine R.idx ?_) | (with_reducible refine R.slc ?_) | (with_reducible refine R.oN ?_) | (with_reducible refine R.oS ?_)
  | (with_reducible refine R.tcmp ?_) | (with_reducible refine R.tnot ?_) | (with_reducible refine R.tand ?_) | (with_reducible refine R.tor ?_) | (with_reducible refine R.tcall ?_) | (with_reducible refine R.tbi ?_) | (with_reducible refine R.tisN ?_) | (with_reducible refine R.tnotN ?_) | (with_reducible refine R.tchain ?_) | (with_reducible refine R.tvar ?_) | (with_reducible refine R.tcallK ?_)
  | (with_reducible refine R.isN ?_) | (with_reducible refine R.notN ?_) | (with_reducible refine R.chain ?_) | (with_reducible refine R.neg ?_) | (with_reducible refine R.not ?_) | (with_reducible refine R.and ?_) | (with_reducible refine R.or ?_) | (with_reducible refine R.ife ?_)
  | (with_reducible refine R.tup ?_) | (with_reducible refine R.lst ?_) | (with_reducible refine R.call ?_) | (with_reducible refine R.callK ?_) | (with_reducible refine R.callIo ?_) | (with_reducible refine R.bi ?_) | (with_reducible refine R.comp ?_) | (with_reducible refine R.index ?_) | (with_reducible refine R.repL ?_) | (with_reducible refine R.listR ?_)
  | (with_reducible refine R.an ?_) | (with_reducible refine R.ac ?_) | (with_reducible refine R.en ?_) | (with_reducible refine R.ec ?_) | (with_reducible refine R.ed ?_) | (with_reducible refine R.eo ?_)
  | ((with_reducible refine' R.erd ?g ?h); (case g => exact rfl)) | ((with_reducible refine' R.ero ?g ?h); (case g => exact rfl))
  | ((with_reducible refine' R.w1 ?g ?h); (case g => exact rfl)) | ((with_reducible refine' R.w2 ?g ?g' ?h); (case g => exact rfl); (case g' => exact rfl)) | ((with_reducible refine' R.ws ?g ?h); (case g => exact rfl))
  | (with_reducible refine R.fval rfl ?_) | (with_reducible refine R.f_l ?_) | (with_reducible refine R.f_t ?_) | (with_reducible refine R.ival rfl ?_) | (with_reducible refine R.i_l ?_) | (with_reducible refine R.i_t ?_) | (with_reducible refine R.i_o ?_) | ((with_reducible refine' R.i_r ?g ?h); (case g => exact rfl))
  | (with_reducible refine R.irange ?_) | (with_reducible refine R.frange ?_) | (with_reducible refine R.ienum ?_) | (with_reducible refine R.fenum ?_) | (with_reducible refine R.izip ?_) | (with_reducible refine R.fzip ?_) | (with_reducible refine R.irev ?_) | (with_reducible refine R.frev ?_) | ((with_reducible refine' R.zip_at ?g ?g' ?h); (case g => exact rfl); (case g' => exact rfl)) | (with_reducible refine R.eq_i ?_) | (with_reducible refine R.ne_i ?_) | (with_reducible refine R.sretN ?_)
  | (with_reducible refine R.sn ?_) | (with_reducible refine R.sc ?_) | (with_reducible refine R.sasg ?_) | (with_reducible refine R.spar ?_) | (with_reducible refine R.sexpr ?_) | (with_reducible refine R.sapp ?_) | (with_reducible refine R.sext ?_) | (with_reducible refine R.sret ?_) | (with_reducible refine R.site ?_) | (with_reducible refine R.sfor ?_)
  | ((with_reducible refine R.nd_ ?n ?h); (case n => first | exact R.nio rfl rfl | exact R.nio rfl (DL.NoOw.ok (by assumption)))) | ((with_reducible refine R.no_ ?n ?h); (case n => first | exact R.nio rfl rfl | exact R.nio rfl (DL.NoOw.ok (by assumption)))) | ((with_reducible refine R.nr_ ?n ?h); (case n => first | exact R.nio rfl rfl | exact R.nio rfl (DL.NoOw.ok (by assumption))))
  | ((with_reducible refine' R.an_name ?n ?h); (case n => first | assumption | exact R.nio rfl rfl | exact R.nio rfl (DL.NoOw.ok (by assumption)))) | ((with_reducible refine' R.an_two ?n ?m ?h); (case n => first | assumption | exact R.nio rfl rfl | exact R.nio rfl (DL.NoOw.ok (by assumption))); (case m => first | assumption | exact R.nio rfl rfl | exact R.nio rfl (DL.NoOw.ok (by assumption)))) | ((with_reducible refine' R.an_three ?n ?m ?o ?h); (case n => first | assumption | exact R.nio rfl rfl | exact R.nio rfl (DL.NoOw.ok (by assumption))); (case m => first | assumption | exact R.nio rfl rfl | exact R.nio rfl (DL.NoOw.ok (by assumption))); (case o => first | assumption | exact R.nio rfl rfl | exact R.nio rfl (DL.NoOw.ok (by assumption)))) | (with_reducible refine R.tt rfl ?_) | (with_reducible refine R.tn ?_) | (with_reducible refine R.tc ?_) | (with_reducible refine R.subd ?_) | ((with_reducible refine' R.own_and ?g ?h); (case g => exact rfl)) | ((with_reducible refine' R.put_at ?g ?g' ?h); (case g => exact rfl); (case g' => exact rfl)) | ((with_reducible refine' R.io_ref ?g ?h); (case g => exact rfl)) | (with_reducible refine R.io_own ?_) | (with_reducible refine R.one_1 ?_) | (with_reducible refine R.setn ?_) | (with_reducible refine R.setd ?_) | (with_reducible refine R.seto ?_) | (with_reducible refine R.setr ?_)
  | ((with_reducible refine' R.find ?g ?h); (case g => exact rfl)) | ((with_reducible refine' R.fino ?g ?h); (case g => exact rfl)) | ((with_reducible refine' R.finr ?g ?g' ?h); (case g => exact rfl); (case g' => exact rfl)) | ((with_reducible refine' R.find' ?g ?g' ?h); (case g => exact rfl); (case g' => exact rfl))
  | (with_reducible refine R.ifT ?_) | (with_reducible refine R.ifF ?_)
  | ((with_reducible refine' R.pow_i ?g ?h); (case g => decide)) | ((with_reducible refine' R.mul_i ?g ?h); (case g => exact mulOk 60 60 (by omega) (by omega) (by decide))) | ((with_reducible refine' R.fdiv_i ?g ?h); (case g => exact divOk (by omega) (by omega))) | ((with_reducible refine' R.mod_i ?g ?h); (case g => omega))
  | (with_reducible refine R.add_i ?_) | (with_reducible refine R.sub_i ?_) | (with_reducible refine R.lt_i ?_) | (with_reducible refine R.le_i ?_) | (with_reducible refine R.gt_i ?_) | (with_reducible refine R.ge_i ?_)
  | ((with_reducible refine' R.idx_l ?g ?h); (case g => exact rfl)) | ((with_reducible refine' R.idx_t ?g ?h); (case g => exact rfl)) | (with_reducible refine R.slc_l ?_) | (with_reducible refine R.slc_t ?_)
  | (with_reducible refine R.len_l ?_) | (with_reducible refine R.len_t ?_) | (with_reducible refine R.tuple_l ?_) | (with_reducible refine R.tuple_t ?_) | (with_reducible refine R.list_l ?_) | (with_reducible refine R.list_t ?_) | (with_reducible refine R.abs_i ?_) | (with_reducible refine R.int_i ?_) | (with_reducible refine R.gcd_i ?_)
  | (with_reducible refine R.isint ?_) | (with_reducible refine R.isbool ?_) | (with_reducible refine R.istuple ?_) | (with_reducible refine R.islist ?_)
  | (with_reducible refine R.sum_is ?_) | (with_reducible refine R.all_bs ?_) | ((with_reducible refine R.any_bs ?_))); (try dsimp only [List.map, List.set, Int.reduceToNat, Bool.not_true, Bool.not_false, DL.restR, DL.gt, DL.wipeR]))
open Mx (leE topE lowE En leE_trans leE_refl leE_total)
structure Vo (v : Rat) : Prop where
  p : 1 < v
  sz : Sz 300 v
theorem Vo.pw {v : Rat} (h : Vo v) {n : Nat} (hn : n ≤ 12) : Sz 3601 (v ^ n) := by
  have m : 300 * n ≤ 300 * 12 := Nat.mul_le_mul (by omega) hn
  exact (sz_pow h.sz n).mono (by omega)
theorem w_fits_by {k : Nat} {s : Smp} {v : Rat} {Q E} (hs : Ok s) (hv : Vo v) (h : Q (.dat (.bool (fitB s v))) []) : gam P (k + 7) "fits_by" [.dat (smpD s), .dat (Lib.fr v)] Q E := by
  have := hs.m2
  have e : smpD s = .tuple [.int s.m, .tuple [Lib.fr s.x1, Lib.fr s.x2], .tuple [Lib.fr s.y1, Lib.fr s.y2]] := rfl
  unfold fitB at h
  refine R.opn Nd.nd (Has.mem (d := d_fits_by)) rfl ?_
  simp only [d_fits_by, List.map, List.replicate, List.length_cons, List.length_nil, List.cons_append, List.nil_append, Nat.reduceAdd, Nat.reduceSub]
  rw [e]
  (repeat walk_at "w1")
  refine w_power hv.sz (by omega) (by omega) ?_
  (repeat walk_at "w1")
  rw [← e]
  refine w_low_end hs ?_
  simp only [endD]
  (repeat walk_at "w1")
  refine w_is_below (hv.pw hs.m2) (lo_ok hs).sz (by omega) ?_
  (repeat walk_at "w1")
  rw [lt_dec]
  cases g : decide ((lo s).1 ≤ v ^ s.m) with
  | false =>
    rw [g] at h
    refine R.ifF ?_
    (repeat walk_at "w1")
    exact h
  | true =>
    rw [g] at h
    refine R.ifT ?_
    (repeat walk_at "w1")
    refine w_high_end hs ?_
    simp only [endD]
    (repeat walk_at "w1")
    refine w_is_below (hi_ok hs).sz (hv.pw hs.m2) (by omega) ?_
    (repeat walk_at "w1")
    rw [lt_dec, Bool.not_not]
    exact h
theorem w_fits_samples {k : Nat} {l : List Smp} {v : Rat} {Q E} (hl : Oks l) (h8 : l.length ≤ 8) (hv : Vo v) (h : Q (.dat (.bool (l.all fun s => fitB s v))) []) : gam P (k + 9) "fits_samples" [.dat (lD l), .dat (Lib.fr v)] Q E := by
  refine R.opn Nd.nd (Has.mem (d := d_fits_samples)) rfl ?_
  simp only [d_fits_samples, List.map, List.replicate, List.length_cons, List.length_nil, List.cons_append, List.nil_append, Nat.reduceAdd, Nat.reduceSub]
  (repeat walk_at "w1")
  refine w_check_samples hl h8 ?_
  (repeat walk_at "w1")
  refine w_check_volatility hv.p ?_
  simp only [lD]
  (repeat walk_at "w1")
  refine ⟨noOwn1 rfl, ?_⟩
  simp only [wpo, wipeR]
  refine comp_l (α := Smp) smpD (fun s => .bool (fitB s v)) rfl (fun _ => rfl) trivial l [] (fun s hs nx hn => ?_) ?_
  · (repeat walk_at "w1")
    refine w_fits_by (hl.2 s hs) hv ?_
    (repeat walk_at "w1")
    exact hn
  · (repeat walk_at "w1")
    refine all_l ?_
    (repeat walk_at "w1")
    exact h
theorem wl_is_fit {k : Nat} {l : List Smp} {v : Rat} {Q E} (hl : Oks l) (hv : Vo v) (h : Q (.dat (.bool (l.all fun s => fitB s v))) []) : gam P (k + 6) "_law_is_fit" [.dat (lD l), .dat (Lib.fr v)] Q E := by
  refine R.opn Nd.nd (Has.mem (d := d__law_is_fit)) rfl ?_
  simp only [d__law_is_fit, List.map, List.replicate, List.length_cons, List.length_nil, List.cons_append, List.nil_append, Nat.reduceAdd, Nat.reduceSub]
  simp only [lD]
  (repeat walk_at "w1")
  refine for_l (α := Smp) (σ := Option Sl × Option Sl × Option Sl × Option Sl) smpD (fun t => [some (.dat (.tuple (l.map smpD))), some (.dat (Lib.fr v)), t.1, t.2.1, t.2.2.1, t.2.2.2])
    (fun ss t => NoOw t.1 ∧ NoOw t.2.1 ∧ NoOw t.2.2.1 ∧ NoOw t.2.2.2 ∧ (∀ u ∈ ss, Ok u) ∧ (l.all fun s => fitB s v) = (ss.all fun s => fitB s v)) ?_ ?_ l (none, none, none, none) ⟨.n, .n, .n, .n, hl.2, rfl⟩
  · rintro s ss ⟨x, y, z, u⟩ nx ⟨hx, hy, hz, hu, ho, hq⟩ hn
    simp only at hx hy hz hu ho hq
    have os := ho s List.mem_cons_self
    have ho' : ∀ v ∈ ss, Ok v := fun v hv => ho v (List.mem_cons_of_mem _ hv)
    have e : smpD s = .tuple [.int s.m, .tuple [Lib.fr s.x1, Lib.fr s.x2], .tuple [Lib.fr s.y1, Lib.fr s.y2]] := rfl
    have m2 := os.m2
    rw [List.all_cons] at hq
    refine R.an_name (R.nio rfl hx.ok) ?_
    (repeat walk_at "w1")
    refine wl_bounds os ?_
    refine R.tt rfl ?_
    refine R.tc ?_
    refine R.nd_ (R.nio rfl hz.ok) ?_
    refine R.tc ?_
    refine R.nd_ (R.nio rfl hu.ok) ?_
    rw [e]
    (repeat walk_at "w1")
    refine wl_raise hv.sz (by omega) (by omega) ?_
    refine R.nd_ (R.nio rfl hy.ok) ?_
    simp only [endD]
    (repeat walk_at "w1")
    refine wl_side (hv.pw m2) (lo_ok os).sz (by omega) ?_
    (repeat walk_at "w1")
    rw [side_neg]
    cases g : decide ((lo s).1 ≤ v ^ s.m) with
    | false =>
      have : fitB s v = false := by unfold fitB; rw [g]; rfl
      rw [this, Bool.false_and] at hq
      rw [hq] at h
      refine R.ifT ?_
      (repeat walk_at "w1")
      exact h
    | true =>
      refine R.ifF ?_
      (repeat walk_at "w1")
      refine wl_side (hv.pw m2) (hi_ok os).sz (by omega) ?_
      (repeat walk_at "w1")
      rw [side_pos]
      cases g2 : decide (v ^ s.m ≤ (hi s).1) with
      | false =>
        have : fitB s v = false := by unfold fitB; rw [g, g2]; rfl
        rw [this, Bool.false_and] at hq
        rw [hq] at h
        refine R.ifT ?_
        (repeat walk_at "w1")
        exact h
      | true =>
        have : fitB s v = true := by unfold fitB; rw [g, g2]; rfl
        rw [this, Bool.true_and] at hq
        refine R.ifF ?_
        (repeat walk_at "w1")
        exact hn (_, _, _, _) ⟨.d, .d, .d, .d, ho', hq⟩
  · rintro ⟨x, y, z, u⟩ ⟨hx, hy, hz, hu, ho, hq⟩
    simp only [List.all_nil] at hq
    rw [hq] at h
    (repeat walk_at "w1")
    exact h
/-- the share that is left -/
def left (y v : Rat) (m : Nat) : Rat := (odds y / v ^ m) / (1 + odds y / v ^ m)
theorem left_pos {y v : Rat} {m : Nat} (hy : In1 y) (hv : Vo v) : 0 < odds y / v ^ m := div_pos' (odds_pos hy) (Rat.pow_pos (by have := hv.p; grind))
theorem w_after_plates {k m : Nat} {v y : Rat} {Q E} (hv : Vo v) (hv2 : Sz 10 v) (hy : In1 y) (hm : m ≤ 12) (h : Q (.dat (Lib.fr (left y v m))) []) : gam P (k + 6) "after_plates" [.dat (Lib.fr v), .dat (Lib.fr y), .dat (.int m)] Q E := by
  have n := hy.num
  have po := left_pos (m := m) hy hv
  have vp : v ^ m ≠ 0 := by have := Rat.pow_pos (n := m) (show 0 < v by have := hv.p; grind); grind
  have sv : Sz 121 (v ^ m) := (sz_pow hv2 m).mono (by have : 10 * m ≤ 10 * 12 := Nat.mul_le_mul (by omega) hm; omega)
  have so : Sz 243 (odds y / v ^ m) := sz_div (odds_sz hy) sv vp
  refine R.opn Nd.nd (Has.mem (d := d_after_plates)) rfl ?_
  simp only [d_after_plates, List.map, List.replicate, List.length_cons, List.length_nil, List.cons_append, List.nil_append, Nat.reduceAdd, Nat.reduceSub]
  (repeat walk_at "w1")
  refine w_check_volatility hv.p ?_
  (repeat walk_at "w1")
  refine R.opn Nd.nd (Has.mem (d := d_check_share)) rfl ?_
  simp only [d_check_share, List.map, List.replicate, List.length_cons, List.length_nil, List.cons_append, List.nil_append, Nat.reduceAdd, Nat.reduceSub]
  (repeat walk_at "w1")
  refine w_is_share (Int.le_of_lt n.1) (Int.le_of_lt n.2) ?_
  dsimp only
  refine R.ifF ?_
  (repeat walk_at "w1")
  refine R.opn Nd.nd (Has.mem (d := d_check_many)) rfl ?_
  simp only [d_check_many, List.map, List.replicate, List.length_cons, List.length_nil, List.cons_append, List.nil_append, Nat.reduceAdd, Nat.reduceSub]
  (repeat walk_at "w1")
  refine w_is_between ?_
  dsimp only
  rw [decide_eq_true (show (0 : Int) ≤ m ∧ (m : Int) ≤ 60 by omega)]
  refine R.ifF ?_
  (repeat walk_at "w1")
  refine eq_fr (b := 1) ?_
  rw [decide_eq_false (Rat.ne_of_lt hy.l)]
  refine R.ifF ?_
  (repeat walk_at "w1")
  refine w_odds_by hy ?_
  (repeat walk_at "w1")
  refine w_power (hv2.mono (by omega)) (s := 20) (by omega) (by omega) ?_
  (repeat walk_at "w1")
  refine w_overG (odds_sz hy) sv (by omega) vp ?_
  (repeat walk_at "w1")
  refine R.opn Nd.nd (Has.mem (d := Lib.d_share_with)) rfl ?_
  simp only [Lib.d_share_with, List.map, List.replicate, List.length_cons, List.length_nil, List.cons_append, List.nil_append, Nat.reduceAdd, Nat.reduceSub]
  (repeat walk_at "w1")
  refine w_plus (a := 1) sz_one so (by omega) ?_
  (repeat walk_at "w1")
  refine w_overG so (sz_add sz_one so) (by omega) (by grind) ?_
  (repeat walk_at "w1")
  exact h
theorem left_ge {s : Smp} {v : Rat} (hs : Ok s) (hv : Vo v) (h : fitB s v = true) : s.x1 ≤ left s.y2 v s.m := by
  unfold fitB at h
  rw [Bool.and_eq_true, decide_eq_true_iff, decide_eq_true_iff] at h
  have h2 := h.2
  have vp := Rat.pow_pos (n := s.m) (show 0 < v by have := hv.p; grind)
  have o1 := odds_pos hs.a1
  have e2 : (hi s).1 = odds s.y2 / odds s.x1 := rfl
  rw [e2] at h2
  have po := left_pos (m := s.m) hs.a4 hv
  have le : odds s.x1 ≤ odds s.y2 / v ^ s.m := by
    have a := Rat.mul_le_mul_of_nonneg_right h2 (Rat.le_of_lt o1)
    rw [Rat.div_mul_cancel (Rat.ne_of_gt o1)] at a
    have b := Rat.mul_le_mul_of_nonneg_right a (Rat.le_of_lt (Rat.inv_pos.mpr vp))
    rw [Rat.div_def]
    have e3 : v ^ s.m * odds s.x1 * (v ^ s.m)⁻¹ = odds s.x1 := by
      generalize v ^ s.m = p at *
      have : p ≠ 0 := by grind
      clear a b h h2 po
      grind
    rw [e3] at b
    exact b
  unfold left
  generalize odds s.y2 / v ^ s.m = o at *
  -- x = u / (1 + u) with u the odds
  have l1 := hs.a1.l
  have ex : s.x1 * (1 + odds s.x1) = odds s.x1 := by
    unfold odds
    have : 1 - s.x1 ≠ 0 := by grind
    generalize s.x1 = x at *
    clear h h2 vp e2 po le o1
    grind
  generalize odds s.x1 = u at *
  have key : s.x1 * (1 + o) * (1 + u) ≤ o * (1 + u) := by
    have : s.x1 * (1 + o) * (1 + u) = u * (1 + o) := by
      rw [show s.x1 * (1 + o) * (1 + u) = s.x1 * (1 + u) * (1 + o) by grind, ex]
    rw [this]; grind
  apply Classical.byContradiction
  intro z
  have z2 : o < s.x1 * (1 + o) := (Rat.div_lt_iff (show 0 < 1 + o by grind)).mp (Rat.not_le.mp z)
  have := Rat.mul_lt_mul_of_pos_right z2 (show 0 < 1 + u by grind)
  grind
end K91
--GEN /tmp/w/o/K91a.lean
namespace K91
open PySem DL L2 Lib
local macro_rules | `(tactic| walk_at "w1") => `(tactic| (first
  | (with_reducible refine R.lit ?_) | (with_reducible refine R.con ?_)
  | ((with_reducible refine' R.var ?g ?h); (case g => exact rfl))
  | ((with_reducible refine' R.varO ?g ?h); (case g => exact rfl))
  | (with_reducible refine R.op2 ?_) | (with_reducible refine R.cmp ?_) | (with_reducible refine R.idx ?_) | (with_reducible refine R.slc ?_) | (with_reducible refine R.oN ?_) | (with_reducible refine R.oS ?_)
  | (with_reducible refine R.tcmp ?_) | (with_reducible refine R.tnot ?_) | (with_reducible refine R.tand ?_) | (with_reducible refine R.tor ?_) | (with_reducible refine R.tcall ?_) | (with_reducible refine R.tbi ?_) | (with_reducible refine R.tisN ?_) | (with_reducible refine R.tnotN ?_) | (with_reducible refine R.tchain ?_) | (with_reducible refine R.tvar ?_) | (with_reducible refine R.tcallK ?_)
  | (with_reducible refine R.isN ?_) | (with_reducible refine R.notN ?_) | (with_reducible refine R.chain ?_) | (with_reducible refine R.neg ?_) | (with_reducible refine R.not ?_) | (with_reducible refine R.and ?_) | (with_reducible refine R.or ?_) | (with_reducible refine R.ife ?_)
  | (with_reducible refine R.tup ?_) | (with_reducible refine R.lst ?_) | (with_reducible refine R.call ?_) | (with_reducible refine R.callK ?_) | (with_reducible refine R.callIo ?_) | (with_reducible refine R.bi ?_) | (with_reducible refine R.comp ?_) | (with_reducible refine R.index ?_) | (with_reducible refine R.repL ?_) | (with_reducible refine R.listR ?_)
  | (with_reducible refine R.an ?_) | (with_reducible refine R.ac ?_) | (with_reducible refine R.en ?_) | (with_reducible refine R.ec ?_) | (with_reducible refine R.ed ?_) | (with_reducible refine R.eo ?_)
  | ((with_reducible refine' R.erd ?g ?h); (case g => exact rfl)) | ((with_reducible refine' R.ero ?g ?h); (case g => exact rfl))
  | ((with_reducible refine' R.w1 ?g ?h); (case g => exact rfl)) | ((with_reducible refine' R.w2 ?g ?g' ?h); (case g => exact rfl); (case g' => exact rfl)) | ((with_reducible refine' R.ws ?g ?h); (case g => exact rfl))
  | (with_reducible refine R.fval rfl ?_) | (with_reducible refine R.f_l ?_) | (with_reducible refine R.f_t ?_) | (with_reducible refine R.ival rfl ?_) | (with_reducible refine R.i_l ?_) | (with_reducible refine R.i_t ?_) | (with_reducible refine R.i_o ?_) | ((with_reducible refine' R.i_r ?g ?h); (case g => exact rfl))
  | (with_reducible refine R.irange ?_) | (with_reducible refine R.frange ?_) | (with_reducible refine R.ienum ?_) | (with_reducible refine R.fenum ?_) | (with_reducible refine R.izip ?_) | (with_reducible refine R.fzip ?_) | (with_reducible refine R.irev ?_) | (with_reducible refine R.frev ?_) | ((with_reducible refine' R.zip_at ?g ?g' ?h); (case g => exact rfl); (case g' => exact rfl)) | (with_reducible refine R.eq_i ?_) | (with_reducible refine R.ne_i ?_) | (with_reducible refine R.sretN ?_)
  | (with_reducible refine R.sn ?_) | (with_reducible refine R.sc ?_) | (with_reducible refine R.sasg ?_) | (with_reducible refine R.spar ?_) | (with_reducible refine R.sexpr ?_) | (with_reducible refine R.sapp ?_) | (with_reducible refine R.sext ?_) | (with_reducible refine R.sret ?_) | (with_reducible refine R.site ?_) | (with_reducible refine R.sfor ?_)
  | ((with_reducible refine R.nd_ ?n ?h); (case n => first | exact R.nio rfl rfl | exact R.nio rfl (DL.NoOw.ok (by assumption)))) | ((with_reducible refine R.no_ ?n ?h); (case n => first | exact R.nio rfl rfl | exact R.nio rfl (DL.NoOw.ok (by assumption)))) | ((with_reducible refine R.nr_ ?n ?h); (case n => first | exact R.nio rfl rfl | exact R.nio rfl (DL.NoOw.ok (by assumption))))
  | ((with_reducible refine' R.an_name ?n ?h); (case n => first | assumption | exact R.nio rfl rfl | exact R.nio rfl (DL.NoOw.ok (by assumption)))) | ((with_reducible refine' R.an_two ?n ?m ?h); (case n => first | assumption | exact R.nio rfl rfl | exact R.nio rfl (DL.NoOw.ok (by assumption))); (case m => first | assumption | exact R.nio rfl rfl | exact R.nio rfl (DL.NoOw.ok (by assumption)))) | ((with_reducible refine' R.an_three ?n ?m ?o ?h); (case n => first | assumption | exact R.nio rfl rfl | exact R.nio rfl (DL.NoOw.ok (by assumption))); (case m => first | assumption | exact R.nio rfl rfl | exact R.nio rfl (DL.NoOw.ok (by assumption))); (case o => first | assumption | exact R.nio rfl rfl | exact R.nio rfl (DL.NoOw.ok (by assumption)))) | (with_reducible refine R.tt rfl ?_) | (with_reducible refine R.tn ?_) | (with_reducible refine R.tc ?_) | (with_reducible refine R.subd ?_) | ((with_reducible refine' R.own_and ?g ?h); (case g => exact rfl)) | ((with_reducible refine' R.put_at ?g ?g' ?h); (case g => exact rfl); (case g' => exact rfl)) | ((with_reducible refine' R.io_ref ?g ?h); (case g => exact rfl)) | (with_reducible refine R.io_own ?_) | (with_reducible refine R.one_1 ?_) | (with_reducible refine R.setn ?_) | (with_reducible refine R.setd ?_) | (with_reducible refine R.seto ?_) | (with_reducible refine R.setr ?_)
  | ((with_reducible refine' R.find ?g ?h); (case g => exact rfl)) | ((with_reducible refine' R.fino ?g ?h); (case g => exact rfl)) | ((with_reducible refine' R.finr ?g ?g' ?h); (case g => exact rfl); (case g' => exact rfl)) | ((with_reducible refine' R.find' ?g ?g' ?h); (case g => exact rfl); (case g' => exact rfl))
  | (with_reducible refine R.ifT ?_) | (with_reducible refine R.ifF ?_)
  | ((with_reducible refine' R.pow_i ?g ?h); (case g => decide)) | ((with_reducible refine' R.mul_i ?g ?h); (case g => exact mulOk 60 60 (by omega) (by omega) (by decide))) | ((with_reducible refine' R.fdiv_i ?g ?h); (case g => exact divOk (by omega) (by omega))) | ((with_reducible refine' R.mod_i ?g ?h); (case g => omega))
  | (with_reducible refine R.add_i ?_) | (with_reducible refine R.sub_i ?_) | (with_reducible refine R.lt_i ?_) | (with_reducible refine R.le_i ?_) | (with_reducible refine R.gt_i ?_) | (with_reducible refine R.ge_i ?_)
  | ((with_reducible refine' R.idx_l ?g ?h); (case g => exact rfl)) | ((with_reducible refine' R.idx_t ?g ?h); (case g => exact rfl)) | (with_reducible refine R.slc_l ?_) | (with_reducible refine R.slc_t ?_)
  | (with_reducible refine R.len_l ?_) | (with_reducible refine R.len_t ?_) | (with_reducible refine R.tuple_l ?_) | (with_reducible refine R.tuple_t ?_) | (with_reducible refine R.list_l ?_) | (with_reducible refine R.list_t ?_) | (with_reducible refine R.abs_i ?_) | (with_reducible refine R.int_i ?_) | (with_reducible refine R.gcd_i ?_)
  | (with_reducible refine R.isint ?_) | (with_reducible refine R.isbool ?_) | (with_reducible refine R.istuple ?_) | (with_reducible refine R.islist ?_)
  | (with_reducible refine R.sum_is ?_) | (with_reducible refine R.all_bs ?_) | ((with_reducible refine R.any_bs ?_))); (try dsimp only [List.map, List.set, Int.reduceToNat, Bool.not_true, Bool.not_false, DL.restR, DL.gt, DL.wipeR]))
theorem sjoin {Γ : Gam} {E : Xn → Prop} {ρ : Rho} {s : Sm} {d : DEn} (I : Rho → Prop) (h1 : ∀ ρ', I ρ' → d.nx ρ') (h2 : ∀ nx : Rho → Prop, (∀ ρ', I ρ' → nx ρ') → wpS Γ s E { nx := nx, ct := d.ct, bk := d.bk, rt := d.rt } ρ) : wpS Γ s E d ρ := h2 d.nx h1
structure I9 (x : Rat) : Prop where
  p : 0 < x
  l : x < 1
  sz : Sz 9 x
theorem I9.in1 {x : Rat} (h : I9 x) : In1 x := ⟨h.p, h.l, h.sz.mono (by omega)⟩
theorem w_pair_of {k m : Nat} {xs : List D} {Q E} (hx : Tap m xs) (hm : m < 890000) (h : ∀ (ys : List D) (a b : Rat), Tap (m + 7) ys → I9 a → I9 b → a ≤ b → Q (.dat (.tuple [Lib.fr a, Lib.fr b])) [ys]) : gam P (k + 5) "_law_pair_of" [.own true xs] Q E := by
  have last : ∀ (ys : List D) (a b : Rat), Tap (m + 7) ys → I9 a → I9 b → wpSs ((gam P (k + 4))) [.ret (.ife (.cmp .le (.call "_law_side" [.var 1, .var 2]) (.lit (.int 0))) (.tup [.var 1, .var 2]) (.tup [.var 2, .var 1]))] E { nx := DL.fin [.own true xs] Q (.dat .none), rt := DL.fin [.own true xs] Q, bk := fun _ => False, ct := fun _ => False } [some (.own true ys), some (.dat (Lib.fr a)), some (.dat (Lib.fr b))] := by
    intro ys a b hy ha hb
    (repeat walk_at "w1")
    refine wl_side ha.sz hb.sz (by omega) ?_
    (repeat walk_at "w1")
    rw [side_le]
    refine R.iteD (fun g => ?_) fun g => ?_
    · (repeat walk_at "w1")
      exact h ys a b hy ha hb g
    · (repeat walk_at "w1")
      exact h ys b a hy hb ha (Rat.le_of_lt (Rat.not_le.mp g))
  refine R.opn Nd.nd (Has.mem (d := d__law_pair_of)) rfl ?_
  simp only [d__law_pair_of, List.map, List.replicate, List.length_cons, List.length_nil, List.cons_append, List.nil_append, Nat.reduceAdd, Nat.reduceSub]
  (repeat walk_at "w1")
  refine w_inner hx (by omega) fun ys a hy a0 a1 a9 => ?_
  (repeat walk_at "w1")
  refine w_inner hy (by omega) fun zs b hz b0 b1 b9 => ?_
  (repeat walk_at "w1")
  refine w_dropT hz (by omega) (by omega) (by omega) fun us r hu hr => ?_
  (repeat walk_at "w1")
  refine R.iteD (fun g => ?_) fun g => ?_
  · have key := last us a a (hu.mono (by omega)) ⟨a0, a1, a9⟩ ⟨a0, a1, a9⟩
    (repeat (first | (with_reducible exact key) | walk_at "w1"))
  · have key := last us a b (hu.mono (by omega)) ⟨a0, a1, a9⟩ ⟨b0, b1, b9⟩
    (repeat (first | (with_reducible exact key) | walk_at "w1"))
/-- the share of the vapour -/
def shr (x v : Rat) : Rat := x * v / (x * v + (1 - x))
theorem shr_low {x v : Rat} (hx : I9 x) (hv : 0 < v) : 0 < x * v + (1 - x) := by
  have := Rat.mul_pos hx.p hv
  have := hx.l
  grind
theorem shr_in {x v : Rat} (hx : I9 x) (hv : 0 < v) : 0 < shr x v ∧ shr x v < 1 := by
  have l := shr_low hx hv
  have := Rat.mul_pos hx.p hv
  have := hx.l
  refine ⟨div_pos' (by grind) l, ?_⟩
  unfold shr
  rw [Rat.div_lt_iff l]
  grind
theorem shr_le {x y v : Rat} (hx : I9 x) (hy : I9 y) (hv : 0 < v) (h : x ≤ y) : shr x v ≤ shr y v := by
  have l1 := shr_low hx hv
  have l2 := shr_low hy hv
  apply Classical.byContradiction
  intro z
  have z := Rat.not_le.mp z
  have z1 : shr y v < x * v / (x * v + (1 - x)) := z
  have e1 : shr y v * (y * v + (1 - y)) = y * v := Rat.div_mul_cancel (by grind)
  have e2 : shr x v * (x * v + (1 - x)) = x * v := Rat.div_mul_cancel (by grind)
  have a1 := Rat.mul_lt_mul_of_pos_right z l1
  rw [e2] at a1
  have a2 := Rat.mul_lt_mul_of_pos_right a1 l2
  have e3 : shr y v * (x * v + (1 - x)) * (y * v + (1 - y)) = y * v * (x * v + (1 - x)) := by
    rw [show shr y v * (x * v + (1 - x)) * (y * v + (1 - y)) = shr y v * (y * v + (1 - y)) * (x * v + (1 - x)) by grind, e1]
  rw [e3] at a2
  have a3 : y * v * (1 - x) < x * v * (1 - y) := by grind
  have a4 : v * y < v * x := by grind
  have a5 := Rat.mul_le_mul_of_nonneg_left h (Rat.le_of_lt hv)
  grind
theorem cast_toNat {z : Int} (h : 0 ≤ z) : ((z.toNat : Nat) : Rat) = (z : Rat) := by
  have : ((z.toNat : Nat) : Int) = z := Int.toNat_of_nonneg h
  have h2 : (((z.toNat : Nat) : Int) : Rat) = (z : Rat) := by rw [this]
  exact h2
theorem self_div (x : Rat) : x = (x.num : Rat) / ((x.den : Int) : Rat) := ((Rat.mkRat_eq_div x.num x.den).symm.trans (Rat.mkRat_self x)).symm
theorem shr_nums {x v : Rat} (hx : I9 x) (hv : 0 < v) (hs : Sz 49 v) : ∃ d : Nat, x.num * v.num + ((x.den : Int) - x.num) * (v.den : Int) = (d : Int) ∧ 0 < d ∧ d < 2 ^ 59 ∧ (x.num * v.num).natAbs < 2 ^ 59 ∧ mkRat (x.num * v.num) d = shr x v := by
  have n := hx.in1.num
  have vn : 0 ≤ v.num := Rat.num_nonneg.mpr (Rat.le_of_lt hv)
  have vd := v.den_pos
  have b1 : (x.num * v.num).natAbs < 2 ^ (9 + 49) := Mx.natAbs_mul_lt hx.sz.1 hs.1
  have d9 : ((x.den : Int) - x.num).natAbs < 2 ^ 9 := by have := hx.sz.2; omega
  have b2 : (((x.den : Int) - x.num) * (v.den : Int)).natAbs < 2 ^ (9 + 49) := Mx.natAbs_mul_lt d9 (by simpa using hs.2)
  have p1 : 0 ≤ x.num * v.num := Int.mul_nonneg (by omega) vn
  have p2 : 0 < ((x.den : Int) - x.num) * (v.den : Int) := Int.mul_pos (by omega) (by omega)
  refine ⟨(x.num * v.num + ((x.den : Int) - x.num) * (v.den : Int)).toNat, by omega, by omega, by omega, by omega, ?_⟩
  rw [Rat.mkRat_eq_div, cast_toNat (by omega), Rat.intCast_add, Rat.intCast_mul, Rat.intCast_mul, Rat.intCast_sub]
  have l := shr_low hx hv
  have dx := Mx.cast_ne (show (x.den : Int) ≠ 0 by have := x.den_pos; omega)
  have dv := Mx.cast_ne (show (v.den : Int) ≠ 0 by omega)
  have key : ∀ a b c d : Rat, b ≠ 0 → d ≠ 0 → (a / b) * (c / d) + (1 - a / b) ≠ 0 → a * c / (a * c + (b - a) * d) = (a / b) * (c / d) / ((a / b) * (c / d) + (1 - a / b)) := by
    intro a b c d hb hd hl
    have e1 : a * c = (a / b) * (c / d) * (b * d) := by grind
    have e2 : a * c + (b - a) * d = ((a / b) * (c / d) + (1 - a / b)) * (b * d) := by grind
    have hbd : b * d ≠ 0 := Mx.mul_ne hb hd
    rw [e2, e1]
    generalize (a / b) * (c / d) = p at *
    generalize p + (1 - a / b) = q at *
    generalize b * d = r at *
    clear e1 e2
    grind
  have l2 : x * v + (1 - x) ≠ 0 := by grind
  have sx := self_div x
  have sv := self_div v
  have := key (x.num : Rat) ((x.den : Int) : Rat) (v.num : Rat) ((v.den : Int) : Rat) dx dv (by rw [← sx, ← sv]; exact l2)
  rw [this, ← sx, ← sv]
  rfl
structure I59 (x : Rat) : Prop where
  p : 0 < x
  l : x < 1
  sz : Sz 59 x
theorem shr_59 {x v : Rat} (hx : I9 x) (hv : 0 < v) (hs : Sz 49 v) : I59 (shr x v) := by
  obtain ⟨d, e, d0, d1, n1, em⟩ := shr_nums hx hv hs
  obtain ⟨a, b⟩ := shr_in hx hv
  exact ⟨a, b, by rw [← em]; exact sz_mk _ _ _ d0 n1 d1⟩
theorem I59.in1 {x : Rat} (h : I59 x) : In1 x := ⟨h.p, h.l, h.sz.mono (by omega)⟩
theorem half_up {b : Rat} (h : I59 b) : ∃ d : Nat, 2 * (b.den : Int) = (d : Int) ∧ 0 < d ∧ d < 2 ^ 9000 ∧ In1 (mkRat (b.num + (b.den : Int)) d) ∧ b ≤ mkRat (b.num + (b.den : Int)) d := by
  have n := h.in1.num
  have d9 := h.sz.2
  have dp := b.den_pos
  have big : 2 ^ 60 ≤ 2 ^ 9000 := Nat.pow_le_pow_right (by omega) (by omega)
  have e : mkRat (b.num + (b.den : Int)) (2 * b.den) = (b + 1) / 2 := by
    have db := Mx.cast_ne (show (b.den : Int) ≠ 0 by omega)
    rw [Rat.mkRat_eq_div, Rat.intCast_add]
    have c : ((2 * b.den : Nat) : Rat) = 2 * ((b.den : Int) : Rat) := by
      have : ((((2 * b.den : Nat)) : Int) : Rat) = ((2 * (b.den : Int) : Int) : Rat) := by rw [Int.natCast_mul]; rfl
      rw [Rat.intCast_mul] at this
      exact this
    rw [c]
    have sb := self_div b
    have key : ∀ n d : Rat, d ≠ 0 → (n + d) / (2 * d) = (n / d + 1) / 2 := fun n d hd => by grind
    rw [key _ _ db, ← sb]
  have hp := h.p
  have hl := h.l
  refine ⟨2 * b.den, by omega, by omega, Nat.lt_of_lt_of_le (m := 2 ^ 60) (by omega) big, ⟨?_, ?_, ?_⟩, ?_⟩
  · rw [e]; grind
  · rw [e]; grind
  · exact sz_mk _ _ _ (by omega) (by omega) (by omega)
  · rw [e]; grind
theorem w_share {k : Nat} {x v : Rat} {E} {dd : DEn} {ys sh : List D} {y1 y2 y3 x4 : Option Sl} (hx : I9 x) (hv : 0 < v) (hs : Sz 49 v) (n4 : NoOw x4) (hl : sh.length ≤ 5)
    (hn : dd.nx [some (.own true ys), y1, y2, y3, some (.dat (Lib.fr x)), some (.dat (Lib.fr v)), some (.own false (sh ++ [Lib.fr (shr x v)]))]) :
    asnN (.name 4) (Lib.fr x) [some (.own true ys), y1, y2, y3, x4, some (.dat (Lib.fr v)), some (.own false sh)] fun ρ1 => wpSs ((gam P (k + 5))) [.app 6 (.call "_law_frac" [.op2 .mul (.idx (.var 4) (.lit (.int 0))) (.idx (.var 5) (.lit (.int 0))), .op2 .add (.op2 .mul (.idx (.var 4) (.lit (.int 0))) (.idx (.var 5) (.lit (.int 0)))) (.op2 .mul (.op2 .sub (.idx (.var 4) (.lit (.int 1))) (.idx (.var 4) (.lit (.int 0)))) (.idx (.var 5) (.lit (.int 1))))])] E dd ρ1 := by
  obtain ⟨d, e, d0, d1, n1, em⟩ := shr_nums hx hv hs
  have big : 2 ^ 59 ≤ 2 ^ 9000 := Nat.pow_le_pow_right (by omega) (by omega)
  have d9 : ((x.den : Int) - x.num).natAbs < 2 ^ 9 := by have := hx.in1.num; have := hx.sz.2; omega
  refine R.an_name (R.nio rfl n4.ok) ?_
  simp only [Lib.fr]
  (repeat walk_at "w1")
  refine R.mul_i (mulOk 9 49 hx.sz.1 hs.1 (by omega)) ?_
  (repeat walk_at "w1")
  refine R.mul_i (mulOk 9 49 hx.sz.1 hs.1 (by omega)) ?_
  (repeat walk_at "w1")
  refine R.mul_i (mulOk 9 49 d9 (by simpa using hs.2) (by omega)) ?_
  (repeat walk_at "w1")
  rw [e]
  refine w_frac d0 (by omega) ?_
  (repeat walk_at "w1")
  rw [em]
  refine R.app_at rfl (by rw [sizeLine_eq]; omega) ?_
  simp only [Lib.fr] at hn ⊢
  (repeat walk_at "w1")
  exact hn
theorem w_probe {k m c : Nat} {t : Rat} {xs : List D} {Q E} (hx : Tap c xs) (hc : c < 800000) (t0 : 0 < t) (ts : Sz 4 t) (m1 : 1 ≤ m) (m2 : m ≤ 12) (h : ∀ (ys : List D) (s : Smp), Tap (c + 20) ys → Ok s → Q (.dat (smpD s)) [ys]) : gam P (k + 6) "_law_probe" [.own true xs, .dat (Lib.fr t), .dat (.int m)] Q E := by
  have v0 := Rat.pow_pos (n := m) t0
  have vs : Sz 49 (t ^ m) := (sz_pow ts m).mono (by have : 4 * m ≤ 4 * 12 := Nat.mul_le_mul (by omega) m2; omega)
  refine R.opn Nd.nd (Has.mem (d := d__law_probe)) rfl ?_
  simp only [d__law_probe, List.map, List.replicate, List.length_cons, List.length_nil, List.cons_append, List.nil_append, Nat.reduceAdd, Nat.reduceSub]
  (repeat walk_at "w1")
  refine w_pair_of hx (by omega) fun ys a b hy ha hb hab => ?_
  (repeat walk_at "w1")
  refine w_dropT hy (by omega) (by omega) (by omega) fun ys r hy hr => ?_
  (repeat walk_at "w1")
  refine R.iteD (fun g => ?_) fun g => ?_
  · (repeat walk_at "w1")
    refine w_pair_of hy (by omega) fun ys a' b' hy ha' hb' hab' => ?_
    (repeat walk_at "w1")
    exact h ys ⟨m, a, b, a', b'⟩ (hy.mono (by omega)) ⟨m1, m2, ha.in1, hb.in1, ha'.in1, hb'.in1, hab, hab'⟩
  (repeat walk_at "w1")
  refine wl_raise (ts.mono (by omega)) (s := 20) (by omega) (by omega) ?_
  (repeat walk_at "w1")
  refine w_share (k := k) ha v0 vs .n (by simp) ?_
  simp only [forL]
  refine w_share (k := k) hb v0 vs .d (by simp) ?_
  simp only [forL, List.nil_append, List.cons_append]
  have ia := shr_59 ha v0 vs
  have ib := shr_59 hb v0 vs
  have le := shr_le ha hb v0 hab
  generalize shr a (t ^ m) = p at *
  generalize shr b (t ^ m) = q at *
  show wpSs _ _ _ _ _
  refine R.sc ?_
  refine sjoin (fun ρ => ∃ (zs : List D) (q' : Rat), Tap (c + 16) zs ∧ I59 q' ∧ p ≤ q' ∧ ρ = [some (.own true zs), some (.dat (Lib.fr t)), some (.dat (.int m)), some (.dat (.tuple [Lib.fr a, Lib.fr b])), some (.dat (Lib.fr b)), some (.dat (Lib.fr (t ^ m))), some (.own false [Lib.fr p, Lib.fr q'])]) ?_ ?_
  case refine_2 =>
    intro nx hn
    (repeat walk_at "w1")
    refine w_dropT hy (by omega) (by omega) (by omega) fun ys r hy hr => ?_
    (repeat walk_at "w1")
    refine R.iteD (fun g => ?_) fun g => ?_
    · (repeat walk_at "w1")
      exact hn _ ⟨ys, p, hy.mono (by omega), ia, Rat.le_refl, rfl⟩
    · (repeat walk_at "w1")
      exact hn _ ⟨ys, q, hy.mono (by omega), ib, le, rfl⟩
  rintro ρ ⟨zs, q', hz, iq, le', rfl⟩
  try dsimp only
  refine R.sc ?_
  refine sjoin (fun ρ => ∃ (zs : List D) (q' : Rat), Tap (c + 20) zs ∧ In1 q' ∧ p ≤ q' ∧ ρ = [some (.own true zs), some (.dat (Lib.fr t)), some (.dat (.int m)), some (.dat (.tuple [Lib.fr a, Lib.fr b])), some (.dat (Lib.fr b)), some (.dat (Lib.fr (t ^ m))), some (.own false [Lib.fr p, Lib.fr q'])]) ?_ ?_
  case refine_2 =>
    intro nx hn
    obtain ⟨d, e, d0, d1, i1, l1⟩ := half_up iq
    (repeat walk_at "w1")
    refine w_dropT hz (by omega) (by omega) (by omega) fun ys r hy hr => ?_
    (repeat walk_at "w1")
    refine R.iteD (fun g => ?_) fun g => ?_
    · (repeat walk_at "w1")
      simp only [Lib.fr]
      (repeat walk_at "w1")
      refine R.mul_i (mulOk 2 59 (by decide) (by simpa using iq.sz.2) (by omega)) ?_
      (repeat walk_at "w1")
      rw [e]
      refine w_frac d0 d1 ?_
      (repeat walk_at "w1")
      have := hn _ ⟨ys, _, hy.mono (by omega), i1, Rat.le_trans le' l1, rfl⟩
      simp only [Lib.fr] at this ⊢
      exact this
    · (repeat walk_at "w1")
      exact hn _ ⟨ys, q', hy.mono (by omega), iq.in1, le', rfl⟩
  rintro ρ ⟨us, r', hu, ir, le2, rfl⟩
  try dsimp only
  (repeat walk_at "w1")
  exact h us ⟨m, a, b, p, r'⟩ hu ⟨m1, m2, ha.in1, hb.in1, ia.in1, ir, hab, le2⟩
end K91
--GEN /tmp/w/o/K91a.lean
namespace K91
open PySem DL L2 Lib
local macro_rules | `(tactic| walk_at "w1") => `(tactic| (first
  | (with_reducible refine R.lit ?_) | (with_reducible refine R.con ?_)
  | ((with_reducible refine' R.var ?g ?h); (case g => exact rfl))
  | ((with_reducible refine' R.varO ?g ?h); (case g => exact rfl))
  | (with_reducible refine R.op2 ?_) | (with_reducible refine R.cmp ?_) | (with_reducible refine R.idx ?_) | (with_reducible refine R.slc ?_) | (with_reducible refine R.oN ?_) | (with_reducible refine R.oS ?_)
  | (with_reducible refine R.tcmp ?_) | (with_reducible refine R.tnot ?_) | (with_reducible refine R.tand ?_) | (with_reducible refine R.tor ?_) | (with_reducible refine R.tcall ?_) | (with_reducible refine R.tbi ?_) | (with_reducible refine R.tisN ?_) | (with_reducible refine R.tnotN ?_) | (with_reducible refine R.tchain ?_) | (with_reducible refine R.tvar ?_) | (with_reducible refine R.tcallK ?_)
  | (with_reducible refine R.isN ?_) | (with_reducible refine R.notN ?_) | (with_reducible refine R.chain ?_) | (with_reducible refine R.neg ?_) | (with_reducible refine R.not ?_) | (with_reducible refine R.and ?_) | (with_reducible refine R.or ?_) | (with_reducible refine R.ife ?_)
  | (with_reducible refine R.tup ?_) | (with_reducible refine R.lst ?_) | (with_reducible refine R.call ?_) | (with_reducible refine R.callK ?_) | (with_reducible refine R.callIo ?_) | (with_reducible refine R.bi ?_) | (with_reducible refine R.comp ?_) | (with_reducible refine R.index ?_) | (with_reducible refine R.repL ?_) | (with_reducible refine R.listR ?_)
  | (with_reducible refine R.an ?_) | (with_reducible refine R.ac ?_) | (with_reducible refine R.en ?_) | (with_reducible refine R.ec ?_) | (with_reducible refine R.ed ?_) | (with_reducible refine R.eo ?_)
  | ((with_reducible refine' R.erd ?g ?h); (case g => exact rfl)) | ((with_reducible refine' R.ero ?g ?h); (case g => exact rfl))
  | ((with_reducible refine' R.w1 ?g ?h); (case g => exact rfl)) | ((with_reducible refine' R.w2 ?g ?g' ?h); (case g => exact rfl); (case g' => exact rfl)) | ((with_reducible refine' R.ws ?g ?h); (case g => exact rfl))
  | (with_reducible refine R.fval rfl ?_) | (with_reducible refine R.f_l ?_) | (with_reducible refine R.f_t ?_) | (with_reducible refine R.ival rfl ?_) | (with_reducible refine R.i_l ?_) | (with_reducible refine R.i_t ?_) | (with_reducible refine R.i_o ?_) | ((with_reducible refine' R.i_r ?g ?h); (case g => exact rfl))
  | (with_reducible refine R.irange ?_) | (with_reducible refine R.frange ?_) | (with_reducible refine R.ienum ?_) | (with_reducible refine R.fenum ?_) | (with_reducible refine R.izip ?_) | (with_reducible refine R.fzip ?_) | (with_reducible refine R.irev ?_) | (with_reducible refine R.frev ?_) | ((with_reducible refine' R.zip_at ?g ?g' ?h); (case g => exact rfl); (case g' => exact rfl)) | (with_reducible refine R.eq_i ?_) | (with_reducible refine R.ne_i ?_) | (with_reducible refine R.sretN ?_)
  | (with_reducible refine R.sn ?_) | (with_reducible refine R.sc ?_) | (with_reducible refine R.sasg ?_) | (with_reducible refine R.spar ?_) | (with_reducible refine R.sexpr ?_) | (with_reducible refine R.sapp ?_) | (with_reducible refine R.sext ?_) | (with_reducible refine R.sret ?_) | (with_reducible refine R.site ?_) | (with_reducible refine R.sfor ?_)
  | ((with_reducible refine R.nd_ ?n ?h); (case n => first | exact R.nio rfl rfl | exact R.nio rfl (DL.NoOw.ok (by assumption)))) | ((with_reducible refine R.no_ ?n ?h); (case n => first | exact R.nio rfl rfl | exact R.nio rfl (DL.NoOw.ok (by assumption)))) | ((with_reducible refine R.nr_ ?n ?h); (case n => first | exact R.nio rfl rfl | exact R.nio rfl (DL.NoOw.ok (by assumption))))
  | ((with_reducible refine' R.an_name ?n ?h); (case n => first | assumption | exact R.nio rfl rfl | exact R.nio rfl (DL.NoOw.ok (by assumption)))) | ((with_reducible refine' R.an_two ?n ?m ?h); (case n => first | assumption | exact R.nio rfl rfl | exact R.nio rfl (DL.NoOw.ok (by assumption))); (case m => first | assumption | exact R.nio rfl rfl | exact R.nio rfl (DL.NoOw.ok (by assumption)))) | ((with_reducible refine' R.an_three ?n ?m ?o ?h); (case n => first | assumption | exact R.nio rfl rfl | exact R.nio rfl (DL.NoOw.ok (by assumption))); (case m => first | assumption | exact R.nio rfl rfl | exact R.nio rfl (DL.NoOw.ok (by assumption))); (case o => first | assumption | exact R.nio rfl rfl | exact R.nio rfl (DL.NoOw.ok (by assumption)))) | (with_reducible refine R.tt rfl ?_) | (with_reducible refine R.tn ?_) | (with_reducible refine R.tc ?_) | (with_reducible refine R.subd ?_) | ((with_reducible refine' R.own_and ?g ?h); (case g => exact rfl)) | ((with_reducible refine' R.put_at ?g ?g' ?h); (case g => exact rfl); (case g' => exact rfl)) | ((with_reducible refine' R.io_ref ?g ?h); (case g => exact rfl)) | (with_reducible refine R.io_own ?_) | (with_reducible refine R.one_1 ?_) | (with_reducible refine R.setn ?_) | (with_reducible refine R.setd ?_) | (with_reducible refine R.seto ?_) | (with_reducible refine R.setr ?_)
  | ((with_reducible refine' R.find ?g ?h); (case g => exact rfl)) | ((with_reducible refine' R.fino ?g ?h); (case g => exact rfl)) | ((with_reducible refine' R.finr ?g ?g' ?h); (case g => exact rfl); (case g' => exact rfl)) | ((with_reducible refine' R.find' ?g ?g' ?h); (case g => exact rfl); (case g' => exact rfl))
  | (with_reducible refine R.ifT ?_) | (with_reducible refine R.ifF ?_)
  | ((with_reducible refine' R.pow_i ?g ?h); (case g => decide)) | ((with_reducible refine' R.mul_i ?g ?h); (case g => exact mulOk 60 60 (by omega) (by omega) (by decide))) | ((with_reducible refine' R.fdiv_i ?g ?h); (case g => exact divOk (by omega) (by omega))) | ((with_reducible refine' R.mod_i ?g ?h); (case g => omega))
  | (with_reducible refine R.add_i ?_) | (with_reducible refine R.sub_i ?_) | (with_reducible refine R.lt_i ?_) | (with_reducible refine R.le_i ?_) | (with_reducible refine R.gt_i ?_) | (with_reducible refine R.ge_i ?_)
  | ((with_reducible refine' R.idx_l ?g ?h); (case g => exact rfl)) | ((with_reducible refine' R.idx_t ?g ?h); (case g => exact rfl)) | (with_reducible refine R.slc_l ?_) | (with_reducible refine R.slc_t ?_)
  | (with_reducible refine R.len_l ?_) | (with_reducible refine R.len_t ?_) | (with_reducible refine R.tuple_l ?_) | (with_reducible refine R.tuple_t ?_) | (with_reducible refine R.list_l ?_) | (with_reducible refine R.list_t ?_) | (with_reducible refine R.abs_i ?_) | (with_reducible refine R.int_i ?_) | (with_reducible refine R.gcd_i ?_)
  | (with_reducible refine R.isint ?_) | (with_reducible refine R.isbool ?_) | (with_reducible refine R.istuple ?_) | (with_reducible refine R.islist ?_)
  | (with_reducible refine R.sum_is ?_) | (with_reducible refine R.all_bs ?_) | ((with_reducible refine R.any_bs ?_))); (try dsimp only [List.map, List.set, Int.reduceToNat, Bool.not_true, Bool.not_false, DL.restR, DL.gt, DL.wipeR]))
open Mx (leE topE lowE En leE_trans leE_refl leE_total)
theorem true_cases {x : D} (h : x ∈ [.tuple [.int 2, .int 1], .tuple [.int 3, .int 2], .tuple [.int 3, .int 1], .tuple [.int 5, .int 4], .tuple [.int 11, .int 10], .tuple [.int 7, .int 1]]) : ∃ t : Rat, x = Lib.fr t ∧ 0 < t ∧ Sz 4 t := by
  have key : ∀ (n : Int) (d : Nat), 0 < n → 0 < d → n < 16 → d < 16 → (mkRat n d).num = n → (mkRat n d).den = d → ∃ t : Rat, PyData.tuple [.int n, .int (d : Int)] = Lib.fr t ∧ 0 < t ∧ Sz 4 t := by
    intro n d n0 d0 n1 d1 e1 e2
    refine ⟨mkRat n d, by simp only [Lib.fr, e1, e2], ?_, ⟨by rw [e1]; omega, by rw [e2]; omega⟩⟩
    have nn := mkRat_nonneg' (a := n) (u := d) (by omega)
    have ne : mkRat n d ≠ 0 := by rw [Ne, Rat.mkRat_eq_zero (by omega)]; omega
    grind
  simp only [List.mem_cons, List.not_mem_nil, or_false] at h
  rcases h with rfl | rfl | rfl | rfl | rfl | rfl
  · exact key 2 1 (by omega) (by omega) (by omega) (by omega) (by decide +kernel) (by decide +kernel)
  · exact key 3 2 (by omega) (by omega) (by omega) (by omega) (by decide +kernel) (by decide +kernel)
  · exact key 3 1 (by omega) (by omega) (by omega) (by omega) (by decide +kernel) (by decide +kernel)
  · exact key 5 4 (by omega) (by omega) (by omega) (by omega) (by decide +kernel) (by decide +kernel)
  · exact key 11 10 (by omega) (by omega) (by omega) (by omega) (by decide +kernel) (by decide +kernel)
  · exact key 7 1 (by omega) (by omega) (by omega) (by omega) (by decide +kernel) (by decide +kernel)
theorem w_probes {k c : Nat} {b : Bool} {xs : List D} {Q E} (hx : Tap c xs) (hc : c < 700000) (h : ∀ (ys : List D) (l : List Smp), Tap (c + 200) ys → Oks l → l.length ≤ 8 → Q (.dat (lD l)) [ys]) : gam P (k + 7) "_law_probes" [.own true xs, .dat (.int 8), .dat (.bool b)] Q E := by
  refine R.opn Nd.nd (Has.mem (d := d__law_probes)) rfl ?_
  simp only [d__law_probes, List.map, List.replicate, List.length_cons, List.length_nil, List.cons_append, List.nil_append, Nat.reduceAdd, Nat.reduceSub]
  (repeat walk_at "w1")
  refine w_of hx (by omega) (.inl rfl) (by simp) (by simp) fun ys x hy hx' => ?_
  obtain ⟨t, rfl, t0, ts⟩ := true_cases hx'
  (repeat walk_at "w1")
  refine w_dropT hy (by omega) (by omega) (by omega) fun zs n hz hn => ?_
  (repeat walk_at "w1")
  have e1 : (1 : Int) + (n : Int) = ((1 + n : Nat) : Int) := by omega
  rw [e1]
  refine R.rng1 (by omega) (by unfold LenOk; rw [sizeLine_eq]; omega) ?_
  refine for_rng (n := 1 + n) (σ := List D × List Smp × Option Sl) (fun s => [some (.own true s.1), some (.dat (.int 8)), some (.dat (.bool b)), s.2.2, some (.own false (s.2.1.map smpD)), some (.dat (Lib.fr t))])
    (fun a s => Tap (c + 2 + 21 * a) s.1 ∧ s.2.1.length = a ∧ (∀ u ∈ s.2.1, Ok u) ∧ NoOw s.2.2) ?_ ?_ (zs, [], none) ⟨hz, rfl, by simp, .n⟩
  · rintro a ⟨us, l, x⟩ nx ha ⟨hu, hl, ho, hx⟩ hn'
    simp only at hu hl ho hx
    have fin : ∀ (ws : List D) (s : Smp), Tap (c + 2 + 21 * (a + 1)) ws → Ok s → nx [some (.own true ws), some (.dat (.int 8)), some (.dat (.bool b)), some (.dat (.int a)), some (.own false (l.map smpD ++ [smpD s])), some (.dat (Lib.fr t))] := fun ws s hw hs => by
      have := hn' (ws, l ++ [s], some (.dat (.int a))) ⟨hw, by simp [hl], fun u hu => by
        rcases List.mem_append.mp hu with z | z
        · exact ho u z
        · rw [List.mem_singleton.mp z]; exact hs, .d⟩
      simpa using this
    refine R.an_name (R.nio rfl hx.ok) ?_
    (repeat walk_at "w1")
    refine R.iteB (fun g => ?_) fun g => ?_
    · (repeat walk_at "w1")
      refine w_probe (m := 1) hu (by omega) t0 ts (by omega) (by omega) fun ws s hw hs => ?_
      (repeat walk_at "w1")
      refine R.app_at rfl (by rw [sizeLine_eq]; simp; omega) ?_
      have key := fin ws s (hw.mono (by omega)) hs
      (repeat walk_at "w1")
      exact key
    · (repeat walk_at "w1")
      refine w_of (ys := [1, 1, 1, 2, 2, 3, 4, 12].map PyData.int) hu (by omega) (.inl rfl) (by simp) (by simp) fun ws y hw hy => ?_
      obtain ⟨v, hv, rfl⟩ := int_cases hy
      simp at hv
      obtain ⟨m, rfl⟩ := Int.eq_ofNat_of_zero_le (show 0 ≤ v by omega)
      (repeat walk_at "w1")
      refine w_probe (m := m) hw (by omega) t0 ts (by omega) (by omega) fun ws s hw hs => ?_
      (repeat walk_at "w1")
      refine R.app_at rfl (by rw [sizeLine_eq]; simp; omega) ?_
      have key := fin ws s (hw.mono (by omega)) hs
      (repeat walk_at "w1")
      exact key
  · rintro ⟨us, l, x⟩ ⟨hu, hl, ho, hx⟩
    simp only at hu hl ho hx
    have ne : l ≠ [] := fun z => by rw [z] at hl; simp at hl; omega
    have full : ∀ (ws : List D) (l' : List Smp), Tap (c + 200) ws → Oks l' → l'.length ≤ 8 → ∀ x, wpSs ((gam P (k + 6))) [.ret (.bi .tuple [.var 4])] E { nx := DL.fin [.own true xs, .dat (.int 8), .dat (.bool b)] Q (.dat .none), rt := DL.fin [.own true xs, .dat (.int 8), .dat (.bool b)] Q, bk := fun _ => False, ct := fun _ => False } [some (.own true ws), some (.dat (.int 8)), some (.dat (.bool b)), x, some (.own false (l'.map smpD)), some (.dat (Lib.fr t))] := by
      intro ws l' hw hl' h8 x
      (repeat walk_at "w1")
      exact h ws l' hw hl' h8
    (repeat walk_at "w1")
    rw [List.length_map]
    refine R.iteD (fun g => ?_) fun g => ?_
    · (repeat walk_at "w1")
      refine w_dropT hu (by omega) (by omega) (by omega) fun ws r hw hr => ?_
      (repeat walk_at "w1")
      refine R.iteD (fun g2 => ?_) fun g2 => ?_
      · obtain ⟨s, r, rfl⟩ := List.exists_cons_of_ne_nil ne
        have key := h ws ((s :: r) ++ [s]) (hw.mono (by omega)) ⟨by simp, fun u hu => by
          rcases List.mem_append.mp hu with z | z
          · exact ho u z
          · rw [List.mem_singleton.mp z]; exact ho s List.mem_cons_self⟩ (by simp at hl g ⊢; omega)
        simp only [lD, List.map_append, List.map_cons, List.map_nil] at key
        (repeat walk_at "w1")
        refine R.idx_l (show atI ((s :: r).map smpD) 0 = some (smpD s) from atI_nat (j := 0) rfl) ?_
        (repeat walk_at "w1")
        refine R.app_at rfl (by rw [sizeLine_eq]; simp at hl ⊢; omega) ?_
        (repeat walk_at "w1")
        exact key
      · have key := full ws l (hw.mono (by omega)) ⟨ne, ho⟩ (by omega) x
        (repeat (first | (with_reducible exact key) | walk_at "w1"))
    · have key := full us l (hu.mono (by omega)) ⟨ne, ho⟩ (by omega) x
      (repeat (first | (with_reducible exact key) | walk_at "w1"))
/-! ### what is told -/
theorem endD_sh {e : Rat × Nat} (h : Eo e) : Sh 2 7712 (endD e) := by
  have := h.le
  have := sh_tup (e := 1) (L := 3852) (xs := [Lib.fr e.1, .int e.2]) fun x hx => by
    simp only [List.mem_cons, List.not_mem_nil, or_false] at hx
    rcases hx with rfl | rfl
    · exact sh_fr h.sz (by omega)
    · exact (sh_small (by omega)).mono (by omega) (by omega)
  exact this.mono (by omega) (by simp)
def dueD (l : List Smp) : D := if letB l = true then .tuple [endD (tops l), endD (lows l)] else .none
theorem due_sh {l : List Smp} (h : Oks l) : Sh 3 15432 (dueD l) := by
  unfold dueD
  split
  · have := sh_tup (e := 2) (L := 7712) (xs := [endD (tops l), endD (lows l)]) fun x hx => by
      simp only [List.mem_cons, List.not_mem_nil, or_false] at hx
      rcases hx with rfl | rfl
      · exact endD_sh (tops_ok h)
      · exact endD_sh (lows_ok h)
    exact this.mono (by omega) (by simp)
  · exact sh_none.mono (by omega) (by omega)
theorem prs_lt {l : List Smp} {ks : List Nat} (hk : ∀ k ∈ ks, k < l.length) {p : Nat × Nat} (h : p ∈ prs l ks) : p.1 < l.length ∧ p.2 < l.length := by
  unfold prs at h
  obtain ⟨k, hk', h⟩ := List.mem_flatMap.mp h
  obtain ⟨j, hj, rfl⟩ := List.mem_map.mp h
  have := List.mem_range.mp (List.mem_filter.mp hj).1
  have := hk k hk'
  exact ⟨this, by show k + 1 + j < _; omega⟩
theorem odd_sh {l : List Smp} (h8 : l.length ≤ 8) : Sh 3 15432 (oddD l) := by
  unfold oddD
  split
  · rename_i k ks e
    have : k ∈ singles l := by rw [e]; exact List.mem_cons_self
    have := List.mem_range.mp (List.mem_filter.mp this).1
    have := sh_tup (e := 0) (L := 1922) (xs := [PyData.int (k : Int)]) fun x hx => by
      rw [List.mem_singleton.mp hx]; exact sh_small (by omega)
    exact this.mono (by omega) (by simp)
  · split
    · rename_i p ps e
      have := prs_lt (l := l) (ks := List.range l.length) (fun k hk => List.mem_range.mp hk) (p := p) (by rw [e]; exact List.mem_cons_self)
      have := sh_tup (e := 0) (L := 1922) (xs := [PyData.int (p.1 : Int), PyData.int (p.2 : Int)]) fun x hx => by
        simp only [List.mem_cons, List.not_mem_nil, or_false] at hx
        rcases hx with rfl | rfl
        · exact sh_small (by omega)
        · exact sh_small (by omega)
      exact this.mono (by omega) (by simp)
    · exact sh_none.mono (by omega) (by omega)
def needD (l : List Smp) : D := .tuple (((List.range l.length).filter (needB l)).map fun (i : Nat) => .int (i : Int))
theorem need_sh {l : List Smp} (h8 : l.length ≤ 8) : Sh 1 15400 (needD l) := by
  unfold needD
  have := sh_tup (e := 0) (L := 1922) (xs := ((List.range l.length).filter (needB l)).map fun (i : Nat) => PyData.int (i : Int)) fun x hx => by
    obtain ⟨i, hi, rfl⟩ := List.mem_map.mp hx
    have := List.mem_range.mp (List.mem_filter.mp hi).1
    exact sh_small (by omega)
  have le := List.length_filter_le (needB l) (List.range l.length)
  rw [List.length_range] at le
  rw [List.length_map] at this
  exact this.mono (by omega) (by omega)
theorem list_sh {e L : Nat} {xs : List D} (h : ∀ x ∈ xs, Sh e L x) (hl : xs.length ≤ 4) : Sh (e + 1) (4 * (L + 2) + 4) (.list xs) := by
  have := sh_list h
  have m : xs.length * (L + 2) ≤ 4 * (L + 2) := Nat.mul_le_mul_right _ hl
  exact this.mono (by omega) (by omega)
theorem Vo.of {s : Nat} {v : Rat} (h : 1 < v) (hs : Sz s v) (k : s ≤ 300) : Vo v := ⟨h, hs.mono k⟩
theorem w_asked {k c : Nat} {l : List Smp} {v : Rat} {E} {dd : DEn} {ys : List D} {as : D} {x6 x10 x11 : Option Sl} (hl : Oks l) (h8 : l.length ≤ 8) (hv : Vo v) (n6 : NoOw x6) (n10 : NoOw x10) (n11 : NoOw x11) {t4 : D} {t3 : List D}
    (hn : ∀ x10 x11 : Option Sl, NoOw x10 → NoOw x11 → dd.nx [some (.own true ys), some (.dat (lD l)), some (.dat (dueD l)), some (.own false t3), some (.dat t4), some (.dat as), some (.dat (Lib.fr v)), none, some (.dat (endD (tops l))), some (.dat (endD (lows l))), x10, x11, none, none, none, none]) :
    asnN (.name 6) (Lib.fr v) [some (.own true ys), some (.dat (lD l)), some (.dat (dueD l)), some (.own false t3), some (.dat t4), some (.dat as), x6, none, some (.dat (endD (tops l))), some (.dat (endD (lows l))), x10, x11, none, none, none, none] fun ρ1 => wpSs ((gam P (k + 9))) [.asg (.name 10) (.call "_law_is_fit" [.var 1, .var 6]), .ite (.cmp .ne (.bi .repr [.lst [.call "fits_samples" [.var 1, .var 6], .callK "fits_samples" ["samples", "volatility"] [.var 1, .var 6]]]) (.bi .repr [.lst [.var 10, .var 10]])) [.ret (.lit (.bool false))] [], .asg (.name 11) (.and (.cmp .ge (.call "_law_roots" [.tup [.var 6, .lit (.int 1)], .var 8]) (.lit (.int 0))) (.cmp .le (.call "_law_roots" [.tup [.var 6, .lit (.int 1)], .var 9]) (.lit (.int 0)))), .ite (.or (.cmp .ne (.var 11) (.var 10)) (.and (.var 10) (.isN (.var 2)))) [.ret (.lit (.bool false))] []] E dd ρ1 := by
  have a1 := tops_ok hl
  have a2 := lows_ok hl
  have ev : En (v, 1) := ⟨by have := hv.p; show 0 < v; grind, by show 0 < 1; omega⟩
  have s2 : Sh 1 7708 (.list [.bool (l.all fun s => fitB s v), .bool (l.all fun s => fitB s v)]) := by
    have := list_sh (e := 0) (L := 5) (xs := [.bool (l.all fun s => fitB s v), .bool (l.all fun s => fitB s v)]) (fun x hx => by
      simp only [List.mem_cons, List.not_mem_nil, or_false] at hx
      rcases hx with rfl | rfl <;> exact sh_bool _) (by simp)
    exact this.mono (by omega) (by omega)
  refine R.an_name (R.nio rfl n6.ok) ?_
  (repeat walk_at "w1")
  refine wl_is_fit hl hv ?_
  refine R.nd_ (R.nio rfl n10.ok) ?_
  (repeat walk_at "w1")
  refine w_fits_samples hl h8 hv ?_
  (repeat walk_at "w1")
  refine w_fits_samples hl h8 hv ?_
  (repeat walk_at "w1")
  refine R.repr_d (s2.repr (by omega) (by omega)) ?_
  (repeat walk_at "w1")
  refine R.repr_d (s2.repr (by omega) (by omega)) ?_
  (repeat walk_at "w1")
  refine R.repr_ne s2 (by omega) (by omega) ?_
  refine R.ifF ?_
  (repeat walk_at "w1")
  rw [show PyData.tuple [Lib.fr v, .int 1] = endD (v, 1) from rfl]
  refine wl_roots hv.sz (by show 1 ≤ 12; omega) (a1.sz.mono (by omega)) a1.le ?_
  (repeat walk_at "w1")
  rw [roots_ge]
  have hq := fit_all hl (show 0 < v by have := hv.p; grind)
  have body : ∀ b : Bool, b = (l.all fun s => fitB s v) → asn ((gam P (k + 9))) (.name 11) (.dat (.bool b)) E [some (.own true ys), some (.dat (lD l)), some (.dat (dueD l)), some (.own false t3), some (.dat t4), some (.dat as), some (.dat (Lib.fr v)), none, some (.dat (endD (tops l))), some (.dat (endD (lows l))), some (.dat (.bool (l.all fun s => fitB s v))), x11, none, none, none, none] fun ρ1 => wpSs ((gam P (k + 9))) [.ite (.or (.cmp .ne (.var 11) (.var 10)) (.and (.var 10) (.isN (.var 2)))) [.ret (.lit (.bool false))] []] E dd ρ1 := by
    intro b hb
    refine R.nd_ (R.nio rfl n11.ok) ?_
    (repeat walk_at "w1")
    refine bool_ne ?_
    rw [hb]
    have : ((l.all fun s => fitB s v) != (l.all fun s => fitB s v)) = false := by simp
    rw [this]
    (repeat walk_at "w1")
    cases g : (l.all fun s => fitB s v) with
    | false =>
      refine R.ifF ?_
      (repeat walk_at "w1")
      exact hn _ _ .d .d
    | true =>
      have := fit_let hl hv.p g
      have ed : isNone (dueD l) = false := by unfold dueD; rw [if_pos this]; rfl
      refine R.ifT ?_
      (repeat walk_at "w1")
      rw [ed]
      refine R.ifF ?_
      (repeat walk_at "w1")
      exact hn _ _ .d .d
  cases g : decide (leE (tops l) (v, 1)) with
  | false =>
    rw [g, Bool.false_and] at hq
    have key := body false hq.symm
    refine R.ifF ?_
    (repeat (first | (with_reducible exact key) | walk_at "w1"))
  | true =>
    rw [g, Bool.true_and] at hq
    refine R.ifT ?_
    (repeat walk_at "w1")
    rw [show PyData.tuple [Lib.fr v, .int 1] = endD (v, 1) from rfl]
    refine wl_roots hv.sz (by show 1 ≤ 12; omega) (a2.sz.mono (by omega)) a2.le ?_
    have key := body (decide (rootsI (v, 1) (lows l) ≤ 0)) (by rw [roots_le]; exact hq.symm)
    (repeat (first | (with_reducible exact key) | walk_at "w1"))
end K91
--GEN /tmp/w/o/K91a.lean
namespace K91
open PySem DL L2 Lib
local macro_rules | `(tactic| walk_at "w1") => `(tactic| (first
  | (with_reducible refine R.lit ?_) | (with_reducible refine R.con ?_)
  | ((with_reducible refine' R.var ?g ?h); (case g => exact rfl))
  | ((with_reducible refine' R.varO ?g ?h); (case g => exact rfl))
  | (with_reducible refine R.op2 ?_) | (with_reducible refine R.cmp ?_) | (with_reducible refine R.idx ?_) | (with_reducible refine R.slc ?_) | (with_reducible refine R.oN ?_) | (with_reducible refine R.oS ?_)
  | (with_reducible refine R.tcmp ?_) | (with_reducible refine R.tnot ?_) | (with_reducible refine R.tand ?_) | (with_reducible refine R.tor ?_) | (with_reducible refine R.tcall ?_) | (with_reducible refine R.tbi ?_) | (with_reducible refine R.tisN ?_) | (with_reducible refine R.tnotN ?_) | (with_reducible refine R.tchain ?_) | (with_reducible refine R.tvar ?_) | (with_reducible refine R.tcallK ?_)
  | (with_reducible refine R.isN ?_) | (with_reducible refine R.notN ?_) | (with_reducible refine R.chain ?_) | (with_reducible refine R.neg ?_) | (with_reducible refine R.not ?_) | (with_reducible refine R.and ?_) | (with_reducible refine R.or ?_) | (with_reducible refine R.ife ?_)
  | (with_reducible refine R.tup ?_) | (with_reducible refine R.lst ?_) | (with_reducible refine R.call ?_) | (with_reducible refine R.callK ?_) | (with_reducible refine R.callIo ?_) | (with_reducible refine R.bi ?_) | (with_reducible refine R.comp ?_) | (with_reducible refine R.index ?_) | (with_reducible refine R.repL ?_) | (with_reducible refine R.listR ?_)
  | (with_reducible refine R.an ?_) | (with_reducible refine R.ac ?_) | (with_reducible refine R.en ?_) | (with_reducible refine R.ec ?_) | (with_reducible refine R.ed ?_) | (with_reducible refine R.eo ?_)
  | ((with_reducible refine' R.erd ?g ?h); (case g => exact rfl)) | ((with_reducible refine' R.ero ?g ?h); (case g => exact rfl))
  | ((with_reducible refine' R.w1 ?g ?h); (case g => exact rfl)) | ((with_reducible refine' R.w2 ?g ?g' ?h); (case g => exact rfl); (case g' => exact rfl)) | ((with_reducible refine' R.ws ?g ?h); (case g => exact rfl))
  | (with_reducible refine R.fval rfl ?_) | (with_reducible refine R.f_l ?_) | (with_reducible refine R.f_t ?_) | (with_reducible refine R.ival rfl ?_) | (with_reducible refine R.i_l ?_) | (with_reducible refine R.i_t ?_) | (with_reducible refine R.i_o ?_) | ((with_reducible refine' R.i_r ?g ?h); (case g => exact rfl))
  | (with_reducible refine R.irange ?_) | (with_reducible refine R.frange ?_) | (with_reducible refine R.ienum ?_) | (with_reducible refine R.fenum ?_) | (with_reducible refine R.izip ?_) | (with_reducible refine R.fzip ?_) | (with_reducible refine R.irev ?_) | (with_reducible refine R.frev ?_) | ((with_reducible refine' R.zip_at ?g ?g' ?h); (case g => exact rfl); (case g' => exact rfl)) | (with_reducible refine R.eq_i ?_) | (with_reducible refine R.ne_i ?_) | (with_reducible refine R.sretN ?_)
  | (with_reducible refine R.sn ?_) | (with_reducible refine R.sc ?_) | (with_reducible refine R.sasg ?_) | (with_reducible refine R.spar ?_) | (with_reducible refine R.sexpr ?_) | (with_reducible refine R.sapp ?_) | (with_reducible refine R.sext ?_) | (with_reducible refine R.sret ?_) | (with_reducible refine R.site ?_) | (with_reducible refine R.sfor ?_)
  | ((with_reducible refine R.nd_ ?n ?h); (case n => first | exact R.nio rfl rfl | exact R.nio rfl (DL.NoOw.ok (by assumption)))) | ((with_reducible refine R.no_ ?n ?h); (case n => first | exact R.nio rfl rfl | exact R.nio rfl (DL.NoOw.ok (by assumption)))) | ((with_reducible refine R.nr_ ?n ?h); (case n => first | exact R.nio rfl rfl | exact R.nio rfl (DL.NoOw.ok (by assumption))))
  | ((with_reducible refine' R.an_name ?n ?h); (case n => first | assumption | exact R.nio rfl rfl | exact R.nio rfl (DL.NoOw.ok (by assumption)))) | ((with_reducible refine' R.an_two ?n ?m ?h); (case n => first | assumption | exact R.nio rfl rfl | exact R.nio rfl (DL.NoOw.ok (by assumption))); (case m => first | assumption | exact R.nio rfl rfl | exact R.nio rfl (DL.NoOw.ok (by assumption)))) | ((with_reducible refine' R.an_three ?n ?m ?o ?h); (case n => first | assumption | exact R.nio rfl rfl | exact R.nio rfl (DL.NoOw.ok (by assumption))); (case m => first | assumption | exact R.nio rfl rfl | exact R.nio rfl (DL.NoOw.ok (by assumption))); (case o => first | assumption | exact R.nio rfl rfl | exact R.nio rfl (DL.NoOw.ok (by assumption)))) | (with_reducible refine R.tt rfl ?_) | (with_reducible refine R.tn ?_) | (with_reducible refine R.tc ?_) | (with_reducible refine R.subd ?_) | ((with_reducible refine' R.own_and ?g ?h); (case g => exact rfl)) | ((with_reducible refine' R.put_at ?g ?g' ?h); (case g => exact rfl); (case g' => exact rfl)) | ((with_reducible refine' R.io_ref ?g ?h); (case g => exact rfl)) | (with_reducible refine R.io_own ?_) | (with_reducible refine R.one_1 ?_) | (with_reducible refine R.setn ?_) | (with_reducible refine R.setd ?_) | (with_reducible refine R.seto ?_) | (with_reducible refine R.setr ?_)
  | ((with_reducible refine' R.find ?g ?h); (case g => exact rfl)) | ((with_reducible refine' R.fino ?g ?h); (case g => exact rfl)) | ((with_reducible refine' R.finr ?g ?g' ?h); (case g => exact rfl); (case g' => exact rfl)) | ((with_reducible refine' R.find' ?g ?g' ?h); (case g => exact rfl); (case g' => exact rfl))
  | (with_reducible refine R.ifT ?_) | (with_reducible refine R.ifF ?_)
  | ((with_reducible refine' R.pow_i ?g ?h); (case g => decide)) | ((with_reducible refine' R.mul_i ?g ?h); (case g => exact mulOk 60 60 (by omega) (by omega) (by decide))) | ((with_reducible refine' R.fdiv_i ?g ?h); (case g => exact divOk (by omega) (by omega))) | ((with_reducible refine' R.mod_i ?g ?h); (case g => omega))
  | (with_reducible refine R.add_i ?_) | (with_reducible refine R.sub_i ?_) | (with_reducible refine R.lt_i ?_) | (with_reducible refine R.le_i ?_) | (with_reducible refine R.gt_i ?_) | (with_reducible refine R.ge_i ?_)
  | ((with_reducible refine' R.idx_l ?g ?h); (case g => exact rfl)) | ((with_reducible refine' R.idx_t ?g ?h); (case g => exact rfl)) | (with_reducible refine R.slc_l ?_) | (with_reducible refine R.slc_t ?_)
  | (with_reducible refine R.len_l ?_) | (with_reducible refine R.len_t ?_) | (with_reducible refine R.tuple_l ?_) | (with_reducible refine R.tuple_t ?_) | (with_reducible refine R.list_l ?_) | (with_reducible refine R.list_t ?_) | (with_reducible refine R.abs_i ?_) | (with_reducible refine R.int_i ?_) | (with_reducible refine R.gcd_i ?_)
  | (with_reducible refine R.isint ?_) | (with_reducible refine R.isbool ?_) | (with_reducible refine R.istuple ?_) | (with_reducible refine R.islist ?_)
  | (with_reducible refine R.sum_is ?_) | (with_reducible refine R.all_bs ?_) | ((with_reducible refine R.any_bs ?_))); (try dsimp only [List.map, List.set, Int.reduceToNat, Bool.not_true, Bool.not_false, DL.restR, DL.gt, DL.wipeR]))
open Mx (leE topE lowE En leE_trans leE_refl leE_total)
theorem at_odds_ok {k : Nat} {l : List Smp} {Q E} (hl : Oks l) (h8 : l.length ≤ 8) (h : Q (.dat (oddD l)) []) : gam P (k + 9) "at_odds" [.dat (lD l)] Q E := by
  refine R.opn Nd.nd (Has.mem (d := d_at_odds)) rfl ?_
  simp only [d_at_odds, List.map, List.replicate, List.length_cons, List.length_nil, List.cons_append, List.nil_append, Nat.reduceAdd, Nat.reduceSub]
  (repeat walk_at "w1")
  refine w_check_samples hl h8 ?_
  (repeat walk_at "w1")
  refine w_odd_ones hl h8 ?_
  (repeat walk_at "w1")
  exact h
theorem ends_of_ok {k : Nat} {l : List Smp} {Q E} (hl : Oks l) (h8 : l.length ≤ 8) (h : Q (.dat (dueD l)) []) : gam P (k + 9) "ends_of" [.dat (lD l)] Q E := w_ends_of hl h8 h
theorem asked_num {n : Int} {d : Nat} (h0 : 0 < d) (h1 : (d : Int) < n) (h2 : n < 16) (e1 : (mkRat n d).num = n) (e2 : (mkRat n d).den = d) : ∃ v : Rat, PyData.tuple [.int n, .int (d : Int)] = Lib.fr v ∧ Vo v ∧ Sz 10 v := by
  have s : Sz 10 (mkRat n d) := ⟨by rw [e1]; omega, by rw [e2]; omega⟩
  refine ⟨mkRat n d, by simp only [Lib.fr, e1, e2], .of ?_ s (by omega), s⟩
  rw [Rat.lt_iff]
  rw [e1, e2]
  show (1 : Int) * (d : Int) < n * 1
  omega
theorem lst_fr {as : List Rat} {v w : Rat} : as.map Lib.fr ++ [Lib.fr v, Lib.fr w] = (as ++ [v, w]).map Lib.fr := by simp
/-- the ends are asked, too -/
theorem w_ends {k : Nat} {l : List Smp} {e : Rat × Nat} {E} {dd : DEn} {ys t3 : List D} {t4 : D} {as : List Rat} {x6 : Option Sl} {y8 y9 y2 : Option Sl} (he : Eo e) (n6 : NoOw x6) (ha : ∀ v ∈ as, Vo v) (len : as.length ≤ 18)
    (hn : ∀ bs : List Rat, (∀ v ∈ bs, Vo v) → bs.length ≤ 2 → dd.nx [some (.own true ys), some (.dat (lD l)), y2, some (.own false t3), some (.dat t4), some (.own false ((as ++ bs).map Lib.fr)), some (.dat (endD e)), none, y8, y9, none, none, none, none, none, none]) :
    asnN (.name 6) (endD e) [some (.own true ys), some (.dat (lD l)), y2, some (.own false t3), some (.dat t4), some (.own false (as.map Lib.fr)), x6, none, y8, y9, none, none, none, none, none, none] fun ρ1 => wpSs ((gam P (k + 9))) [.ite (.and (.cmp .eq (.idx (.var 6) (.lit (.int 1))) (.lit (.int 1))) (.cmp .gt (.call "_law_side" [.idx (.var 6) (.lit (.int 0)), .tup [.lit (.int 1), .lit (.int 1)]]) (.lit (.int 0)))) [.asg (.name 5) (.op2 .add (.var 5) (.lst [.idx (.var 6) (.lit (.int 0)), .call "_law_add" [.idx (.var 6) (.lit (.int 0)), .tup [.lit (.int 1), .lit (.int 1000)]]]))] []] E dd ρ1 := by
  have nil := hn [] (by simp) (by simp)
  rw [List.append_nil] at nil
  refine R.an_name (R.nio rfl n6.ok) ?_
  simp only [endD] at nil hn ⊢
  (repeat walk_at "w1")
  refine R.iteD (fun g => ?_) fun g => ?_
  · (repeat walk_at "w1")
    refine wl_side (b := 1) he.sz sz_1 (by omega) ?_
    (repeat walk_at "w1")
    rw [side_pos]
    refine R.iteN (fun g2 => ?_) fun g2 => ?_
    · have p1 := Rat.not_le.mp g2
      have th : PyData.tuple [.int 1, .int 1000] = Lib.fr (mkRat 1 1000) := by
        have e1 : (mkRat 1 1000).num = 1 := by decide +kernel
        have e2 : (mkRat 1 1000).den = 1000 := by decide +kernel
        simp only [Lib.fr, e1, e2]; rfl
      have s1 : Sz 10 (mkRat 1 1000) := sz_mk _ _ _ (by omega) (by decide) (by omega)
      have q0 : 0 ≤ mkRat 1 1000 := mkRat_nonneg' (by omega)
      have sv : Sz 261 (e.1 + mkRat 1 1000) := sz_add he.sz s1
      have key := hn [e.1, e.1 + mkRat 1 1000] (fun v hv => by
        simp only [List.mem_cons, List.not_mem_nil, or_false] at hv
        rcases hv with rfl | rfl
        · exact .of p1 he.sz (by omega)
        · exact .of (by grind) sv (by omega)) (by simp)
      (repeat walk_at "w1")
      rw [th]
      refine wl_add he.sz s1 (by omega) ?_
      (repeat walk_at "w1")
      refine R.add_l (by unfold LenOk; rw [sizeLine_eq, List.length_map]; simp; omega) ?_
      rw [lst_fr]
      (repeat walk_at "w1")
      exact key
    · (repeat walk_at "w1")
      exact nil
  · (repeat walk_at "w1")
    exact nil
end K91
--GEN /tmp/w/o/K91a.lean
namespace K91
open PySem DL L2 Lib
local macro_rules | `(tactic| walk_at "w1") => `(tactic| (first
  | (with_reducible refine R.lit ?_) | (with_reducible refine R.con ?_)
  | ((with_reducible refine' R.var ?g ?h); (case g => exact rfl))
  | ((with_reducible refine' R.varO ?g ?h); (case g => exact rfl))
  | (with_reducible refine R.op2 ?_) | (with_reducible refine R.cmp ?_) | (with_reducible refine R.idx ?_) | (with_reducible refine R.slc ?_) | (with_reducible refine R.oN ?_) | (with_reducible refine R.oS ?_)
  | (with_reducible refine R.tcmp ?_) | (with_reducible refine R.tnot ?_) | (with_reducible refine R.tand ?_) | (with_reducible refine R.tor ?_) | (with_reducible refine R.tcall ?_) | (with_reducible refine R.tbi ?_) | (with_reducible refine R.tisN ?_) | (with_reducible refine R.tnotN ?_) | (with_reducible refine R.tchain ?_) | (with_reducible refine R.tvar ?_) | (with_reducible refine R.tcallK ?_)
  | (with_reducible refine R.isN ?_) | (with_reducible refine R.notN ?_) | (with_reducible refine R.chain ?_) | (with_reducible refine R.neg ?_) | (with_reducible refine R.not ?_) | (with_reducible refine R.and ?_) | (with_reducible refine R.or ?_) | (with_reducible refine R.ife ?_)
  | (with_reducible refine R.tup ?_) | (with_reducible refine R.lst ?_) | (with_reducible refine R.call ?_) | (with_reducible refine R.callK ?_) | (with_reducible refine R.callIo ?_) | (with_reducible refine R.bi ?_) | (with_reducible refine R.comp ?_) | (with_reducible refine R.index ?_) | (with_reducible refine R.repL ?_) | (with_reducible refine R.listR ?_)
  | (with_reducible refine R.an ?_) | (with_reducible refine R.ac ?_) | (with_reducible refine R.en ?_) | (with_reducible refine R.ec ?_) | (with_reducible refine R.ed ?_) | (with_reducible refine R.eo ?_)
  | ((with_reducible refine' R.erd ?g ?h); (case g => exact rfl)) | ((with_reducible refine' R.ero ?g ?h); (case g => exact rfl))
  | ((with_reducible refine' R.w1 ?g ?h); (case g => exact rfl)) | ((with_reducible refine' R.w2 ?g ?g' ?h); (case g => exact rfl); (case g' => exact rfl)) | ((with_reducible refine' R.ws ?g ?h); (case g => exact rfl))
  | (with_reducible refine R.fval rfl ?_) | (with_reducible refine R.f_l ?_) | (with_reducible refine R.f_t ?_) | (with_reducible refine R.ival rfl ?_) | (with_reducible refine R.i_l ?_) | (with_reducible refine R.i_t ?_) | (with_reducible refine R.i_o ?_) | ((with_reducible refine' R.i_r ?g ?h); (case g => exact rfl))
  | (with_reducible refine R.irange ?_) | (with_reducible refine R.frange ?_) | (with_reducible refine R.ienum ?_) | (with_reducible refine R.fenum ?_) | (with_reducible refine R.izip ?_) | (with_reducible refine R.fzip ?_) | (with_reducible refine R.irev ?_) | (with_reducible refine R.frev ?_) | ((with_reducible refine' R.zip_at ?g ?g' ?h); (case g => exact rfl); (case g' => exact rfl)) | (with_reducible refine R.eq_i ?_) | (with_reducible refine R.ne_i ?_) | (with_reducible refine R.sretN ?_)
  | (with_reducible refine R.sn ?_) | (with_reducible refine R.sc ?_) | (with_reducible refine R.sasg ?_) | (with_reducible refine R.spar ?_) | (with_reducible refine R.sexpr ?_) | (with_reducible refine R.sapp ?_) | (with_reducible refine R.sext ?_) | (with_reducible refine R.sret ?_) | (with_reducible refine R.site ?_) | (with_reducible refine R.sfor ?_)
  | ((with_reducible refine R.nd_ ?n ?h); (case n => first | exact R.nio rfl rfl | exact R.nio rfl (DL.NoOw.ok (by assumption)))) | ((with_reducible refine R.no_ ?n ?h); (case n => first | exact R.nio rfl rfl | exact R.nio rfl (DL.NoOw.ok (by assumption)))) | ((with_reducible refine R.nr_ ?n ?h); (case n => first | exact R.nio rfl rfl | exact R.nio rfl (DL.NoOw.ok (by assumption))))
  | ((with_reducible refine' R.an_name ?n ?h); (case n => first | assumption | exact R.nio rfl rfl | exact R.nio rfl (DL.NoOw.ok (by assumption)))) | ((with_reducible refine' R.an_two ?n ?m ?h); (case n => first | assumption | exact R.nio rfl rfl | exact R.nio rfl (DL.NoOw.ok (by assumption))); (case m => first | assumption | exact R.nio rfl rfl | exact R.nio rfl (DL.NoOw.ok (by assumption)))) | ((with_reducible refine' R.an_three ?n ?m ?o ?h); (case n => first | assumption | exact R.nio rfl rfl | exact R.nio rfl (DL.NoOw.ok (by assumption))); (case m => first | assumption | exact R.nio rfl rfl | exact R.nio rfl (DL.NoOw.ok (by assumption))); (case o => first | assumption | exact R.nio rfl rfl | exact R.nio rfl (DL.NoOw.ok (by assumption)))) | (with_reducible refine R.tt rfl ?_) | (with_reducible refine R.tn ?_) | (with_reducible refine R.tc ?_) | (with_reducible refine R.subd ?_) | ((with_reducible refine' R.own_and ?g ?h); (case g => exact rfl)) | ((with_reducible refine' R.put_at ?g ?g' ?h); (case g => exact rfl); (case g' => exact rfl)) | ((with_reducible refine' R.io_ref ?g ?h); (case g => exact rfl)) | (with_reducible refine R.io_own ?_) | (with_reducible refine R.one_1 ?_) | (with_reducible refine R.setn ?_) | (with_reducible refine R.setd ?_) | (with_reducible refine R.seto ?_) | (with_reducible refine R.setr ?_)
  | ((with_reducible refine' R.find ?g ?h); (case g => exact rfl)) | ((with_reducible refine' R.fino ?g ?h); (case g => exact rfl)) | ((with_reducible refine' R.finr ?g ?g' ?h); (case g => exact rfl); (case g' => exact rfl)) | ((with_reducible refine' R.find' ?g ?g' ?h); (case g => exact rfl); (case g' => exact rfl))
  | (with_reducible refine R.ifT ?_) | (with_reducible refine R.ifF ?_)
  | ((with_reducible refine' R.pow_i ?g ?h); (case g => decide)) | ((with_reducible refine' R.mul_i ?g ?h); (case g => exact mulOk 60 60 (by omega) (by omega) (by decide))) | ((with_reducible refine' R.fdiv_i ?g ?h); (case g => exact divOk (by omega) (by omega))) | ((with_reducible refine' R.mod_i ?g ?h); (case g => omega))
  | (with_reducible refine R.add_i ?_) | (with_reducible refine R.sub_i ?_) | (with_reducible refine R.lt_i ?_) | (with_reducible refine R.le_i ?_) | (with_reducible refine R.gt_i ?_) | (with_reducible refine R.ge_i ?_)
  | ((with_reducible refine' R.idx_l ?g ?h); (case g => exact rfl)) | ((with_reducible refine' R.idx_t ?g ?h); (case g => exact rfl)) | (with_reducible refine R.slc_l ?_) | (with_reducible refine R.slc_t ?_)
  | (with_reducible refine R.len_l ?_) | (with_reducible refine R.len_t ?_) | (with_reducible refine R.tuple_l ?_) | (with_reducible refine R.tuple_t ?_) | (with_reducible refine R.list_l ?_) | (with_reducible refine R.list_t ?_) | (with_reducible refine R.abs_i ?_) | (with_reducible refine R.int_i ?_) | (with_reducible refine R.gcd_i ?_)
  | (with_reducible refine R.isint ?_) | (with_reducible refine R.isbool ?_) | (with_reducible refine R.istuple ?_) | (with_reducible refine R.islist ?_)
  | (with_reducible refine R.sum_is ?_) | (with_reducible refine R.all_bs ?_) | ((with_reducible refine R.any_bs ?_))); (try dsimp only [List.map, List.set, Int.reduceToNat, Bool.not_true, Bool.not_false, DL.restR, DL.gt, DL.wipeR]))
open Mx (leE topE lowE En leE_trans leE_refl leE_total)
theorem w_right {k : Nat} {xs : List D} {Q E} (hx : Tap 0 xs) (q : ∀ ys, Q (.dat (.bool true)) [ys]) : gam P (k + 10) "_law_right" [.own true xs] Q E := by
  refine R.opn Nd.nd (Has.mem (d := d__law_right)) rfl ?_
  simp only [d__law_right, List.map, List.replicate, List.length_cons, List.length_nil, List.cons_append, List.nil_append, Nat.reduceAdd, Nat.reduceSub]
  (repeat walk_at "w1")
  refine w_dropT hx (by omega) (by omega) (by omega) fun ys r hy hr => ?_
  (repeat walk_at "w1")
  refine w_probes hy (by omega) fun ys l hy hl h8 => ?_
  (repeat walk_at "w1")
  have ds := due_sh hl
  have os := odd_sh (l := l) h8
  have ns := need_sh (l := l) h8
  refine wl_ends_of hl ?_
  (repeat walk_at "w1")
  refine wl_is_let hl ?_
  dsimp only
  have due : ∀ (K : Rho → Prop), K [some (.own true ys), some (.dat (lD l)), some (.dat (dueD l)), none, none, none, none, none, some (.dat (endD (tops l))), some (.dat (endD (lows l))), none, none, none, none, none, none] →
      K [some (.own true ys), some (.dat (lD l)), some (.dat (if letB l = true then .tuple [endD (tops l), endD (lows l)] else .none)), none, none, none, none, none, some (.dat (endD (tops l))), some (.dat (endD (lows l))), none, none, none, none, none, none] := fun K h => h
  have rest : ∀ due : D, due = dueD l → wpSs ((gam P (k + 9))) [.asg (.name 3) (.lst [.call "ends_of" [.var 1], .callK "ends_of" ["samples"] [.var 1], .call "at_odds" [.var 1], .callK "at_odds" ["samples"] [.var 1]]), .ite (.cmp .ne (.bi .repr [.var 3]) (.bi .repr [.lst [.var 2, .var 2, .call "_law_odd_ones" [.var 1], .call "_law_odd_ones" [.var 1]]])) [.ret (.lit (.bool false))] [], .asg (.name 4) (.bi .tuple [.comp (.var 15) (.name 15) (.range [.bi .len [.var 1]]) (some (.call "_law_is_needless" [.var 1, .var 15])) [15]]), .ite (.cmp .ne (.bi .repr [.lst [.call "needless_samples" [.var 1], .callK "needless_samples" ["samples"] [.var 1]]]) (.bi .repr [.lst [.var 4, .var 4]])) [.ret (.lit (.bool false))] [], .asg (.name 5) (.lst [.tup [.lit (.int 2), .lit (.int 1)], .tup [.lit (.int 3), .lit (.int 2)], .tup [.lit (.int 3), .lit (.int 1)], .tup [.lit (.int 5), .lit (.int 4)], .tup [.lit (.int 11), .lit (.int 10)], .call "_law_add" [.tup [.lit (.int 1), .lit (.int 1)], .callIo "_law_amount" (.var 0) []]]), .for_ (.name 6) (.lst [.var 8, .var 9]) [.ite (.and (.cmp .eq (.idx (.var 6) (.lit (.int 1))) (.lit (.int 1))) (.cmp .gt (.call "_law_side" [.idx (.var 6) (.lit (.int 0)), .tup [.lit (.int 1), .lit (.int 1)]]) (.lit (.int 0)))) [.asg (.name 5) (.op2 .add (.var 5) (.lst [.idx (.var 6) (.lit (.int 0)), .call "_law_add" [.idx (.var 6) (.lit (.int 0)), .tup [.lit (.int 1), .lit (.int 1000)]]]))] []], .for_ (.name 6) (.var 5) [.asg (.name 10) (.call "_law_is_fit" [.var 1, .var 6]), .ite (.cmp .ne (.bi .repr [.lst [.call "fits_samples" [.var 1, .var 6], .callK "fits_samples" ["samples", "volatility"] [.var 1, .var 6]]]) (.bi .repr [.lst [.var 10, .var 10]])) [.ret (.lit (.bool false))] [], .asg (.name 11) (.and (.cmp .ge (.call "_law_roots" [.tup [.var 6, .lit (.int 1)], .var 8]) (.lit (.int 0))) (.cmp .le (.call "_law_roots" [.tup [.var 6, .lit (.int 1)], .var 9]) (.lit (.int 0)))), .ite (.or (.cmp .ne (.var 11) (.var 10)) (.and (.var 10) (.isN (.var 2)))) [.ret (.lit (.bool false))] []], .asg (.tup [.name 12, .name 13, .name 14]) (.idx (.var 1) (.lit (.int 0))), .asg (.name 7) (.call "after_plates" [.idx (.var 5) (.lit (.int 0)), .idx (.var 14) (.lit (.int 1)), .var 12]), .ret (.or (.not (.call "fits_samples" [.var 1, .idx (.var 5) (.lit (.int 0))])) (.cmp .ge (.call "_law_side" [.var 7, .idx (.var 13) (.lit (.int 0))]) (.lit (.int 0))))] E { nx := DL.fin [.own true xs] Q (.dat .none), rt := DL.fin [.own true xs] Q, bk := fun _ => False, ct := fun _ => False }
      [some (.own true ys), some (.dat (lD l)), some (.dat due), none, none, none, none, none, some (.dat (endD (tops l))), some (.dat (endD (lows l))), none, none, none, none, none, none] := by
    rintro due rfl
    have s4 : Sh 4 61740 (.list [dueD l, dueD l, oddD l, oddD l]) := by
      have := list_sh (e := 3) (L := 15432) (xs := [dueD l, dueD l, oddD l, oddD l]) (fun x hx => by
        simp only [List.mem_cons, List.not_mem_nil, or_false] at hx
        rcases hx with rfl | rfl | rfl | rfl
        · exact ds
        · exact ds
        · exact os
        · exact os) (by simp)
      exact this.mono (by omega) (by omega)
    have s2 : Sh 2 61700 (.list [needD l, needD l]) := by
      have := list_sh (e := 1) (L := 15400) (xs := [needD l, needD l]) (fun x hx => by
        simp only [List.mem_cons, List.not_mem_nil, or_false] at hx
        rcases hx with rfl | rfl
        · exact ns
        · exact ns) (by simp)
      exact this.mono (by omega) (by omega)
    (repeat walk_at "w1")
    refine ends_of_ok hl h8 ?_
    (repeat walk_at "w1")
    refine ends_of_ok hl h8 ?_
    (repeat walk_at "w1")
    refine at_odds_ok hl h8 ?_
    (repeat walk_at "w1")
    refine at_odds_ok hl h8 ?_
    (repeat walk_at "w1")
    refine R.repr_d (s4.repr (by omega) (by omega)) ?_
    (repeat walk_at "w1")
    refine wl_odd_ones hl h8 ?_
    (repeat walk_at "w1")
    refine wl_odd_ones hl h8 ?_
    (repeat walk_at "w1")
    refine R.repr_d (s4.repr (by omega) (by omega)) ?_
    (repeat walk_at "w1")
    refine R.repr_ne s4 (by omega) (by omega) ?_
    refine R.ifF ?_
    simp only [lD]
    (repeat walk_at "w1")
    rw [List.length_map]
    refine R.rng1 (by omega) (len_nil h8) ?_
    refine ⟨noOwn1 rfl, ?_⟩
    simp only [wpo, wipeR]
    refine comp_if (α := Nat) (fun i => .int (i : Int)) (fun i => .int (i : Int)) (needB l) rfl (fun _ => rfl) trivial (List.range l.length) [] (fun i hi nx hn => ?_) (fun i hi _ nx hn => ?_) ?_
    · (repeat walk_at "w1")
      refine wl_is_needless hl h8 (List.mem_range.mp hi) ?_
      (repeat walk_at "w1")
      exact hn
    · (repeat walk_at "w1")
      exact hn
    (repeat walk_at "w1")
    rw [show PyData.tuple ([] ++ ((List.range l.length).filter (needB l)).map fun (i : Nat) => PyData.int (i : Int)) = needD l from rfl, show PyData.tuple (l.map smpD) = lD l from rfl]
    refine w_needless hl h8 ?_
    (repeat walk_at "w1")
    refine w_needless hl h8 ?_
    (repeat walk_at "w1")
    rw [show PyData.tuple (((List.range l.length).filter (needB l)).map fun (i : Nat) => PyData.int (i : Int)) = needD l from rfl]
    refine R.repr_d (s2.repr (by omega) (by omega)) ?_
    (repeat walk_at "w1")
    refine R.repr_d (s2.repr (by omega) (by omega)) ?_
    (repeat walk_at "w1")
    refine R.repr_ne s2 (by omega) (by omega) ?_
    refine R.ifF ?_
    (repeat walk_at "w1")
    refine w_amount hy (by omega) fun ys a hy a0 a9 => ?_
    (repeat walk_at "w1")
    rw [show PyData.tuple [.int 1, .int 1] = Lib.fr 1 from rfl]
    refine wl_add (a := 1) sz_one a9 (by omega) ?_
    (repeat walk_at "w1")
    obtain ⟨v1, e1, o1, z1⟩ := asked_num (n := 2) (d := 1) (by omega) (by omega) (by omega) (by decide +kernel) (by decide +kernel)
    obtain ⟨v2, e2, o2, _⟩ := asked_num (n := 3) (d := 2) (by omega) (by omega) (by omega) (by decide +kernel) (by decide +kernel)
    obtain ⟨v3, e3, o3, _⟩ := asked_num (n := 3) (d := 1) (by omega) (by omega) (by omega) (by decide +kernel) (by decide +kernel)
    obtain ⟨v4, e4, o4, _⟩ := asked_num (n := 5) (d := 4) (by omega) (by omega) (by omega) (by decide +kernel) (by decide +kernel)
    obtain ⟨v5, e5, o5, _⟩ := asked_num (n := 11) (d := 10) (by omega) (by omega) (by omega) (by decide +kernel) (by decide +kernel)
    have o6 : Vo (1 + a) := .of (by grind) (sz_add sz_one a9) (by omega)
    have el : [PyData.tuple [.int 2, .int 1], .tuple [.int 3, .int 2], .tuple [.int 3, .int 1], .tuple [.int 5, .int 4], .tuple [.int 11, .int 10], Lib.fr (1 + a)] = [v1, v2, v3, v4, v5, 1 + a].map Lib.fr := by
      simp only [List.map]
      rw [← e1, ← e2, ← e3, ← e4, ← e5]
      rfl
    rw [el]
    have all0 : ∀ v ∈ [v1, v2, v3, v4, v5, 1 + a], Vo v := fun v hv => by
      simp only [List.mem_cons, List.not_mem_nil, or_false] at hv
      rcases hv with rfl | rfl | rfl | rfl | rfl | rfl
      · exact o1
      · exact o2
      · exact o3
      · exact o4
      · exact o5
      · exact o6
    refine w_ends (k := k) (l := l) (tops_ok hl) .n all0 (by simp) fun bs hb lb => ?_
    simp only [forL]
    have all1 : ∀ v ∈ [v1, v2, v3, v4, v5, 1 + a] ++ bs, Vo v := fun v hv => by
      rcases List.mem_append.mp hv with z | z
      · exact all0 v z
      · exact hb v z
    refine w_ends (k := k) (l := l) (lows_ok hl) .d all1 (by simp; omega) fun cs hc lc => ?_
    simp only [forL]
    have all2 : ∀ v ∈ v1 :: ([v2, v3, v4, v5, 1 + a] ++ bs ++ cs), Vo v := fun v hv => by
      rcases List.mem_cons.mp hv with rfl | z
      · exact o1
      · rcases List.mem_append.mp z with z | z
        · exact all1 v (List.mem_cons_of_mem _ z)
        · exact hc v z
    rw [show [v1, v2, v3, v4, v5, 1 + a] ++ bs ++ cs = v1 :: ([v2, v3, v4, v5, 1 + a] ++ bs ++ cs) from rfl]
    generalize [v2, v3, v4, v5, 1 + a] ++ bs ++ cs = as at *
    show wpSs _ _ _ _ _
    (repeat walk_at "w1")
    refine for_l (α := Rat) (σ := Option Sl × Option Sl × Option Sl) Lib.fr (fun t => [some (.own true ys), some (.dat (lD l)), some (.dat (dueD l)), some (.own false [dueD l, dueD l, oddD l, oddD l]), some (.dat (needD l)), some (.dat (.list ((v1 :: as).map Lib.fr))), t.1, none, some (.dat (endD (tops l))), some (.dat (endD (lows l))), t.2.1, t.2.2, none, none, none, none])
      (fun vs t => NoOw t.1 ∧ NoOw t.2.1 ∧ NoOw t.2.2 ∧ ∀ v ∈ vs, Vo v) ?_ ?_ (v1 :: as) (some (.dat (endD (lows l))), none, none) ⟨.d, .n, .n, all2⟩
    · rintro v vs ⟨x6, x10, x11⟩ nx ⟨h6, h10, h11, hv⟩ hn
      simp only at h6 h10 h11 hv
      exact w_asked (c := 0) hl h8 (hv v List.mem_cons_self) h6 h10 h11 fun x10 x11 h10 h11 => hn (_, x10, x11) ⟨.d, h10, h11, fun w hw => hv w (List.mem_cons_of_mem _ hw)⟩
    · rintro ⟨x6, x10, x11⟩ ⟨h6, h10, h11, hv⟩
      obtain ⟨s, r, rfl⟩ := List.exists_cons_of_ne_nil hl.1
      have hs := hl.2 s List.mem_cons_self
      have es : smpD s = .tuple [.int s.m, .tuple [Lib.fr s.x1, Lib.fr s.x2], .tuple [Lib.fr s.y1, Lib.fr s.y2]] := rfl
      simp only [lD, List.map]
      (repeat walk_at "w1")
      refine R.idx_t (x := smpD s) (atI_nat (j := 0) rfl) ?_
      rw [es]
      (repeat walk_at "w1")
      refine R.idx_l (x := Lib.fr v1) (atI_nat (j := 0) rfl) ?_
      (repeat walk_at "w1")
      refine w_after_plates o1 z1 hs.a4 hs.m2 ?_
      (repeat walk_at "w1")
      refine R.idx_l (x := Lib.fr v1) (atI_nat (j := 0) rfl) ?_
      (repeat walk_at "w1")
      rw [← es, show PyData.tuple (smpD s :: r.map smpD) = lD (s :: r) from rfl]
      refine w_fits_samples hl h8 o1 ?_
      dsimp only
      cases g : (s :: r).all fun s => fitB s v1 with
      | false =>
        (repeat walk_at "w1")
        refine R.ifT ?_
        (repeat walk_at "w1")
        exact q _
      | true =>
        have f1 : fitB s v1 = true := List.all_eq_true.mp g s List.mem_cons_self
        have le := left_ge hs o1 f1
        have vp : v1 ^ s.m ≠ 0 := by have := Rat.pow_pos (n := s.m) (show 0 < v1 by have := o1.p; grind); grind
        have m10 : 10 * s.m ≤ 10 * 12 := Nat.mul_le_mul (by omega) hs.m2
        have sv : Sz 121 (v1 ^ s.m) := (sz_pow z1 s.m).mono (by omega)
        have so : Sz 243 (odds s.y2 / v1 ^ s.m) := sz_div (odds_sz hs.a4) sv vp
        have sl : Sz 600 (left s.y2 v1 s.m) := (sz_div so (sz_add sz_one so) (by have := left_pos (m := s.m) hs.a4 o1; grind)).mono (by omega)
        (repeat walk_at "w1")
        refine R.ifF ?_
        (repeat walk_at "w1")
        refine wl_side sl hs.a1.sz (by omega) ?_
        (repeat walk_at "w1")
        rw [side_ge, decide_eq_true le]
        exact q _
  cases g : letB l with
  | true =>
    have key := rest (.tuple [endD (tops l), endD (lows l)]) (by unfold dueD; rw [if_pos g])
    refine R.ifT ?_
    (repeat (first | (with_reducible exact key) | walk_at "w1"))
  | false =>
    have key := rest .none (by unfold dueD; rw [if_neg (by rw [g]; simp)])
    refine R.ifF ?_
    (repeat (first | (with_reducible exact key) | walk_at "w1"))
instance i_law : Has P (d_lawN ((2 : Nat) : Int)) := ⟨h_law.mem⟩
theorem plain : IsScript (gam P 200 "law") 63 := law_ok (N := 2) (k := 198) (by omega) fun xs Q E hx q => w_right hx q
end K91
open PySem PySem.W PyProof.Rows
namespace K91
open PySem DL L2
theorem txt {K : PySem.W.Frag} {h : Heap} {mg : Str → Option Value} (X : K.In h) (G : h.Ns mainGlobals mg) {t_MOST_BOILS : Tok} {t_MOST_PLATES : Tok} {t_MOST_SAMPLES : Tok} {a_ONE : Addr} {t_ONE u_ONE : Tok} {d_ONE : Option Addr} {n_ONE : Nat} {s_ONE : Array (Option Value)}
  (f_is_whole : Fact K "is_whole" (top 8))
  (f_is_between : Fact K "is_between" (top 9))
  (f_are_wholes : Fact K "are_wholes" (top 10))
  (f_divisor_of : Fact K "divisor_of" (top 11))
  (f_lowest : Fact K "lowest" (top 12))
  (f_is_ratio : Fact K "is_ratio" (top 15))
  (f_ratio : Fact K "ratio" (top 16))
  (f_plus : Fact K "plus" (top 17))
  (f_minus : Fact K "minus" (top 18))
  (f_over : Fact K "over" (top 19))
  (f_power : Fact K "power" (top 20))
  (f_is_below : Fact K "is_below" (top 21))
  (f_is_share : Fact K "is_share" (top 23))
  (f_is_inner : Fact K "is_inner" (top 24))
  (f_is_volatility : Fact K "is_volatility" (top 25))
  (f_check_share : Fact K "check_share" (top 26))
  (f_odds_by : Fact K "odds_by" (top 27))
  (f_share_with : Fact K "share_with" (top 28))
  (f_check_volatility : Fact K "check_volatility" (top 31))
  (f_check_many : Fact K "check_many" (top 32))
  (f_after_plates : Fact K "after_plates" (top 33))
  (f_is_pair : Fact K "is_pair" (top 37))
  (f_is_sample : Fact K "is_sample" (top 38))
  (f_wrong_sample : Fact K "wrong_sample" (top 39))
  (f_check_samples : Fact K "check_samples" (top 40))
  (f_low_end : Fact K "low_end" (top 41))
  (f_high_end : Fact K "high_end" (top 42))
  (f_is_end_below : Fact K "is_end_below" (top 43))
  (f_is_empty : Fact K "is_empty" (top 44))
  (f_ends_by : Fact K "ends_by" (top 45))
  (f_fits_by : Fact K "fits_by" (top 46))
  (f_odd_ones : Fact K "odd_ones" (top 47))
  (f_same_end : Fact K "same_end" (top 48))
  (f_same_stretch : Fact K "same_stretch" (top 49))
  (f_fits_samples : Fact K "fits_samples" (top 50))
  (f_ends_of : Fact K "ends_of" (top 51))
  (f_at_odds : Fact K "at_odds" (top 52))
  (f_needless_samples : Fact K "needless_samples" (top 53))
  (f__law_tap : Fact K "_law_tap" (top 55))
  (f__law_drop : Fact K "_law_drop" (top 56))
  (f__law_of : Fact K "_law_of" (top 57))
  (f__law_gcd : Fact K "_law_gcd" (top 58))
  (f__law_thin : Fact K "_law_thin" (top 59))
  (f__law_frac : Fact K "_law_frac" (top 60))
  (f__law_add : Fact K "_law_add" (top 61))
  (f__law_over : Fact K "_law_over" (top 62))
  (f__law_side : Fact K "_law_side" (top 63))
  (f__law_power : Fact K "_law_power" (top 64))
  (f__law_amount : Fact K "_law_amount" (top 65))
  (f__law_inner : Fact K "_law_inner" (top 66))
  (f__law_raise : Fact K "_law_raise" (top 67))
  (f__law_roots : Fact K "_law_roots" (top 68))
  (f__law_odds : Fact K "_law_odds" (top 69))
  (f__law_bounds : Fact K "_law_bounds" (top 70))
  (f__law_ends_of : Fact K "_law_ends_of" (top 71))
  (f__law_is_let : Fact K "_law_is_let" (top 72))
  (f__law_pair_of : Fact K "_law_pair_of" (top 73))
  (f__law_probe : Fact K "_law_probe" (top 74))
  (f__law_probes : Fact K "_law_probes" (top 75))
  (f__law_odd_ones : Fact K "_law_odd_ones" (top 76))
  (f__law_is_needless : Fact K "_law_is_needless" (top 77))
  (f__law_is_fit : Fact K "_law_is_fit" (top 78))
  (f__law_right : Fact K "_law_right" (top 79))
  (f_law : Fact K "law" (top 80))
  (k_MOST_BOILS : PySem.W.nsIn K mainGlobals (Str.ofString "MOST_BOILS") = some (some (.int 12 t_MOST_BOILS)))
  (k_MOST_PLATES : PySem.W.nsIn K mainGlobals (Str.ofString "MOST_PLATES") = some (some (.int 60 t_MOST_PLATES)))
  (k_MOST_SAMPLES : PySem.W.nsIn K mainGlobals (Str.ofString "MOST_SAMPLES") = some (some (.int 8 t_MOST_SAMPLES)))
  (k_ONE : PySem.W.nsIn K mainGlobals (Str.ofString "ONE") = some (some (.ref a_ONE)))
  (l_ONE : K.lookup a_ONE = some ⟨.type "tuple", d_ONE, .seq #[.int 1 t_ONE, .int 1 u_ONE] n_ONE, s_ONE⟩)
  (z_abs : PySem.W.nsIn K mainGlobals (Str.ofString "abs") = some none)
  (z_all : PySem.W.nsIn K mainGlobals (Str.ofString "all") = some none)
  (z_bool : PySem.W.nsIn K mainGlobals (Str.ofString "bool") = some none)
  (z_divmod : PySem.W.nsIn K mainGlobals (Str.ofString "divmod") = some none)
  (z_enumerate : PySem.W.nsIn K mainGlobals (Str.ofString "enumerate") = some none)
  (z_int : PySem.W.nsIn K mainGlobals (Str.ofString "int") = some none)
  (z_isinstance : PySem.W.nsIn K mainGlobals (Str.ofString "isinstance") = some none)
  (z_len : PySem.W.nsIn K mainGlobals (Str.ofString "len") = some none)
  (z_math_gcd : PySem.W.nsIn K mainGlobals (Str.ofString "math.gcd") = some none)
  (z_range : PySem.W.nsIn K mainGlobals (Str.ofString "range") = some none)
  (z_repr : PySem.W.nsIn K mainGlobals (Str.ofString "repr") = some none)
  (z_sum : PySem.W.nsIn K mainGlobals (Str.ofString "sum") = some none)
  (z_tuple : PySem.W.nsIn K mainGlobals (Str.ofString "tuple") = some none)
  (g_gcd : PySem.W.nsIn K mainGlobals (Str.ofString "gcd") = some (some (.builtin "math.gcd")))
  : Txt P kn K mg := by
  refine ⟨by decide +kernel, ?_, ?_, ?_, ?_⟩
  · simp only [P, List.forall_mem_cons]
    exact ⟨⟨_, f_is_whole, b_is_whole, c_is_whole⟩, ⟨_, f_is_between, b_is_between, c_is_between⟩, ⟨_, f_are_wholes, b_are_wholes, c_are_wholes⟩, ⟨_, f_divisor_of, b_divisor_of, c_divisor_of⟩, ⟨_, f_lowest, b_lowest, c_lowest⟩, ⟨_, f_is_ratio, b_is_ratio, c_is_ratio⟩, ⟨_, f_ratio, b_ratio, c_ratio⟩, ⟨_, f_plus, b_plus, c_plus⟩, ⟨_, f_minus, b_minus, c_minus⟩, ⟨_, f_over, b_over, c_over⟩, ⟨_, f_power, b_power, c_power⟩, ⟨_, f_is_below, b_is_below, c_is_below⟩, ⟨_, f_is_share, b_is_share, c_is_share⟩, ⟨_, f_is_inner, b_is_inner, c_is_inner⟩, ⟨_, f_is_volatility, b_is_volatility, c_is_volatility⟩, ⟨_, f_check_share, b_check_share, c_check_share⟩, ⟨_, f_odds_by, b_odds_by, c_odds_by⟩, ⟨_, f_share_with, b_share_with, c_share_with⟩, ⟨_, f_check_volatility, b_check_volatility, c_check_volatility⟩, ⟨_, f_check_many, b_check_many, c_check_many⟩, ⟨_, f_after_plates, b_after_plates, c_after_plates⟩, ⟨_, f_is_pair, b_is_pair, c_is_pair⟩, ⟨_, f_is_sample, b_is_sample, c_is_sample⟩, ⟨_, f_wrong_sample, b_wrong_sample, c_wrong_sample⟩, ⟨_, f_check_samples, b_check_samples, c_check_samples⟩, ⟨_, f_low_end, b_low_end, c_low_end⟩, ⟨_, f_high_end, b_high_end, c_high_end⟩, ⟨_, f_is_end_below, b_is_end_below, c_is_end_below⟩, ⟨_, f_is_empty, b_is_empty, c_is_empty⟩, ⟨_, f_ends_by, b_ends_by, c_ends_by⟩, ⟨_, f_fits_by, b_fits_by, c_fits_by⟩, ⟨_, f_odd_ones, b_odd_ones, c_odd_ones⟩, ⟨_, f_same_end, b_same_end, c_same_end⟩, ⟨_, f_same_stretch, b_same_stretch, c_same_stretch⟩, ⟨_, f_fits_samples, b_fits_samples, c_fits_samples⟩, ⟨_, f_ends_of, b_ends_of, c_ends_of⟩, ⟨_, f_at_odds, b_at_odds, c_at_odds⟩, ⟨_, f_needless_samples, b_needless_samples, c_needless_samples⟩, ⟨_, f__law_tap, b__law_tap, c__law_tap⟩, ⟨_, f__law_drop, b__law_drop, c__law_drop⟩, ⟨_, f__law_of, b__law_of, c__law_of⟩, ⟨_, f__law_gcd, b__law_gcd, c__law_gcd⟩, ⟨_, f__law_thin, b__law_thin, c__law_thin⟩, ⟨_, f__law_frac, b__law_frac, c__law_frac⟩, ⟨_, f__law_add, b__law_add, c__law_add⟩, ⟨_, f__law_over, b__law_over, c__law_over⟩, ⟨_, f__law_side, b__law_side, c__law_side⟩, ⟨_, f__law_power, b__law_power, c__law_power⟩, ⟨_, f__law_amount, b__law_amount, c__law_amount⟩, ⟨_, f__law_inner, b__law_inner, c__law_inner⟩, ⟨_, f__law_raise, b__law_raise, c__law_raise⟩, ⟨_, f__law_roots, b__law_roots, c__law_roots⟩, ⟨_, f__law_odds, b__law_odds, c__law_odds⟩, ⟨_, f__law_bounds, b__law_bounds, c__law_bounds⟩, ⟨_, f__law_ends_of, b__law_ends_of, c__law_ends_of⟩, ⟨_, f__law_is_let, b__law_is_let, c__law_is_let⟩, ⟨_, f__law_pair_of, b__law_pair_of, c__law_pair_of⟩, ⟨_, f__law_probe, b__law_probe, c__law_probe⟩, ⟨_, f__law_probes, b__law_probes, c__law_probes⟩, ⟨_, f__law_odd_ones, b__law_odd_ones, c__law_odd_ones⟩, ⟨_, f__law_is_needless, b__law_is_needless, c__law_is_needless⟩, ⟨_, f__law_is_fit, b__law_is_fit, c__law_is_fit⟩, ⟨_, f__law_right, b__law_right, c__law_right⟩, ⟨_, f_law, b_law, c_law⟩, fun _ h => absurd h (by simp)⟩
  · exact ConOk.cons (PySem.W.mg_of X G k_MOST_BOILS) con_int (ConOk.cons (PySem.W.mg_of X G k_MOST_PLATES) con_int (ConOk.cons (PySem.W.mg_of X G k_MOST_SAMPLES) con_int (ConOk.cons (PySem.W.mg_of X G k_ONE) (con_tup2 l_ONE) (ConOk.nil))))
  · exact BltOk.cons (PySem.W.mg_none_of X G z_abs) (BltOk.cons (PySem.W.mg_none_of X G z_all) (BltOk.cons (PySem.W.mg_none_of X G z_bool) (BltOk.cons (PySem.W.mg_none_of X G z_divmod) (BltOk.cons (PySem.W.mg_none_of X G z_enumerate) (BltOk.cons (PySem.W.mg_none_of X G z_int) (BltOk.cons (PySem.W.mg_none_of X G z_isinstance) (BltOk.cons (PySem.W.mg_none_of X G z_len) (BltOk.cons (PySem.W.mg_none_of X G z_math_gcd) (BltOk.cons (PySem.W.mg_none_of X G z_range) (BltOk.cons (PySem.W.mg_none_of X G z_repr) (BltOk.cons (PySem.W.mg_none_of X G z_sum) (BltOk.cons (PySem.W.mg_none_of X G z_tuple) (BltOk.nil)))))))))))))
  · intro hx; exact PySem.W.mg_of X G g_gcd
theorem fin {l : PySem.W.OpenLaw} {w : World} {K : PySem.W.Frag} {h : Heap} {mg : Str → Option Value} {fa : Addr} (X : K.In h) (G : h.Ns mainGlobals mg) (hfa : mg "law" = some (.ref fa)) (t : Txt P kn K mg) :
    ∃ fd : FuncData, (∀ (s : Shared) (v : Value), BindsTo s fd ⟨[v], []⟩ [("script", v)]) ∧ ∀ base : Heap, K.In base → base.Ns mainGlobals mg → FnG l.prog w K mg base C8.CX0 200 fa fd ["script"] (hs K (fun _ => none) 1 (gam P 200 "law")) :=
  txt_law (d := d_law) X G t Lib.Has.mem rfl rfl hfa
theorem walk {l : PySem.W.OpenLaw} {q : Program} {loose : List Str} {XP : (Str → Option Value) → Heap → Prop} {YP : World → Heap → Prop} {d : DefRec} {K : Params → PySem.W.Frag} (hn : l.most = some 63) (hdf : d.params.defaults = [])
    (hY : ∀ (w : World) (h : Heap), YP w h → (K w.params).In h)
    (F : ∀ (w : World) (mg : Str → Option Value) (fa : Addr) (h : Heap), (K w.params).In h → h.Ns mainGlobals mg → mg d.name = some (.ref fa) →
      ∃ fd : FuncData, (∀ (s : Shared) (v : Value), BindsTo s fd ⟨[v], []⟩ [("script", v)]) ∧ ∀ base : Heap, (K w.params).In base → base.Ns mainGlobals mg → FnG l.prog w (K w.params) mg base C8.CX0 200 fa fd ["script"] (hs (K w.params) (fun _ => none) 1 (gam P 200 "law"))) :
    PySem.W.WalkO q loose XP YP l.row.toRowW d [] (fun f vs => PySem.call f vs) :=
  DL.walk_of (n := 63) (k := 200) (x := "script") (CX := fun _ => C8.CX0) (xt := fun _ _ => none) hn (by decide) hdf ⟨rfl, by decide, by decide⟩ hY F plain fun _ _ _ _ _ z => z
end K91
open PySem PySem.W PyProof.Rows
set_option maxRecDepth 100000 in
set_option maxHeartbeats 0 in
theorem PySem.Challenge.cw_partedcolumns_k91_whole_what_samples_let_holds : PySem.Challenge.rw_partedcolumns_k91_whole_what_samples_let.Holds := by
  w_on; o_law; k_head; (case hw => w_witness2)
  k_fill
  refine K91.walk (l := PySem.Challenge.rw_partedcolumns_k91_whole_what_samples_let) rfl rfl (fun w h Y => PySem.W.kIn_of Y) ?F
  case F =>
    intro w mg fa h KX G hmg
    refine K91.fin KX G hmg ?_
    refine' K91.txt KX G ?f0 ?f1 ?f2 ?f3 ?f4 ?f5 ?f6 ?f7 ?f8 ?f9 ?f10 ?f11 ?f12 ?f13 ?f14 ?f15 ?f16 ?f17 ?f18 ?f19 ?f20 ?f21 ?f22 ?f23 ?f24 ?f25 ?f26 ?f27 ?f28 ?f29 ?f30 ?f31 ?f32 ?f33 ?f34 ?f35 ?f36 ?f37 ?f38 ?f39 ?f40 ?f41 ?f42 ?f43 ?f44 ?f45 ?f46 ?f47 ?f48 ?f49 ?f50 ?f51 ?f52 ?f53 ?f54 ?f55 ?f56 ?f57 ?f58 ?f59 ?f60 ?f61 ?f62 ?f63 ?k_MOST_BOILS ?k_MOST_PLATES ?k_MOST_SAMPLES ?k_ONE ?l_ONE ?z0 ?z1 ?z2 ?z3 ?z4 ?z5 ?z6 ?z7 ?z8 ?z9 ?z10 ?z11 ?z12 ?gg
    (case f0 => refine' DL.Fact.of ?a ?l ?c ?k; (case a => k_is); (case l => k_is); (case c => k_is); (case k => k_is))
    (case f1 => refine' DL.Fact.of ?a ?l ?c ?k; (case a => k_is); (case l => k_is); (case c => k_is); (case k => k_is))
    (case f2 => refine' DL.Fact.of ?a ?l ?c ?k; (case a => k_is); (case l => k_is); (case c => k_is); (case k => k_is))
    (case f3 => refine' DL.Fact.of ?a ?l ?c ?k; (case a => k_is); (case l => k_is); (case c => k_is); (case k => k_is))
    (case f4 => refine' DL.Fact.of ?a ?l ?c ?k; (case a => k_is); (case l => k_is); (case c => k_is); (case k => k_is))
    (case f5 => refine' DL.Fact.of ?a ?l ?c ?k; (case a => k_is); (case l => k_is); (case c => k_is); (case k => k_is))
    (case f6 => refine' DL.Fact.of ?a ?l ?c ?k; (case a => k_is); (case l => k_is); (case c => k_is); (case k => k_is))
    (case f7 => refine' DL.Fact.of ?a ?l ?c ?k; (case a => k_is); (case l => k_is); (case c => k_is); (case k => k_is))
    (case f8 => refine' DL.Fact.of ?a ?l ?c ?k; (case a => k_is); (case l => k_is); (case c => k_is); (case k => k_is))
    (case f9 => refine' DL.Fact.of ?a ?l ?c ?k; (case a => k_is); (case l => k_is); (case c => k_is); (case k => k_is))
    (case f10 => refine' DL.Fact.of ?a ?l ?c ?k; (case a => k_is); (case l => k_is); (case c => k_is); (case k => k_is))
    (case f11 => refine' DL.Fact.of ?a ?l ?c ?k; (case a => k_is); (case l => k_is); (case c => k_is); (case k => k_is))
    (case f12 => refine' DL.Fact.of ?a ?l ?c ?k; (case a => k_is); (case l => k_is); (case c => k_is); (case k => k_is))
    (case f13 => refine' DL.Fact.of ?a ?l ?c ?k; (case a => k_is); (case l => k_is); (case c => k_is); (case k => k_is))
    (case f14 => refine' DL.Fact.of ?a ?l ?c ?k; (case a => k_is); (case l => k_is); (case c => k_is); (case k => k_is))
    (case f15 => refine' DL.Fact.of ?a ?l ?c ?k; (case a => k_is); (case l => k_is); (case c => k_is); (case k => k_is))
    (case f16 => refine' DL.Fact.of ?a ?l ?c ?k; (case a => k_is); (case l => k_is); (case c => k_is); (case k => k_is))
    (case f17 => refine' DL.Fact.of ?a ?l ?c ?k; (case a => k_is); (case l => k_is); (case c => k_is); (case k => k_is))
    (case f18 => refine' DL.Fact.of ?a ?l ?c ?k; (case a => k_is); (case l => k_is); (case c => k_is); (case k => k_is))
    (case f19 => refine' DL.Fact.of ?a ?l ?c ?k; (case a => k_is); (case l => k_is); (case c => k_is); (case k => k_is))
    (case f20 => refine' DL.Fact.of ?a ?l ?c ?k; (case a => k_is); (case l => k_is); (case c => k_is); (case k => k_is))
    (case f21 => refine' DL.Fact.of ?a ?l ?c ?k; (case a => k_is); (case l => k_is); (case c => k_is); (case k => k_is))
    (case f22 => refine' DL.Fact.of ?a ?l ?c ?k; (case a => k_is); (case l => k_is); (case c => k_is); (case k => k_is))
    (case f23 => refine' DL.Fact.of ?a ?l ?c ?k; (case a => k_is); (case l => k_is); (case c => k_is); (case k => k_is))
    (case f24 => refine' DL.Fact.of ?a ?l ?c ?k; (case a => k_is); (case l => k_is); (case c => k_is); (case k => k_is))
    (case f25 => refine' DL.Fact.of ?a ?l ?c ?k; (case a => k_is); (case l => k_is); (case c => k_is); (case k => k_is))
    (case f26 => refine' DL.Fact.of ?a ?l ?c ?k; (case a => k_is); (case l => k_is); (case c => k_is); (case k => k_is))
    (case f27 => refine' DL.Fact.of ?a ?l ?c ?k; (case a => k_is); (case l => k_is); (case c => k_is); (case k => k_is))
    (case f28 => refine' DL.Fact.of ?a ?l ?c ?k; (case a => k_is); (case l => k_is); (case c => k_is); (case k => k_is))
    (case f29 => refine' DL.Fact.of ?a ?l ?c ?k; (case a => k_is); (case l => k_is); (case c => k_is); (case k => k_is))
    (case f30 => refine' DL.Fact.of ?a ?l ?c ?k; (case a => k_is); (case l => k_is); (case c => k_is); (case k => k_is))
    (case f31 => refine' DL.Fact.of ?a ?l ?c ?k; (case a => k_is); (case l => k_is); (case c => k_is); (case k => k_is))
    (case f32 => refine' DL.Fact.of ?a ?l ?c ?k; (case a => k_is); (case l => k_is); (case c => k_is); (case k => k_is))
    (case f33 => refine' DL.Fact.of ?a ?l ?c ?k; (case a => k_is); (case l => k_is); (case c => k_is); (case k => k_is))
    (case f34 => refine' DL.Fact.of ?a ?l ?c ?k; (case a => k_is); (case l => k_is); (case c => k_is); (case k => k_is))
    (case f35 => refine' DL.Fact.of ?a ?l ?c ?k; (case a => k_is); (case l => k_is); (case c => k_is); (case k => k_is))
    (case f36 => refine' DL.Fact.of ?a ?l ?c ?k; (case a => k_is); (case l => k_is); (case c => k_is); (case k => k_is))
    (case f37 => refine' DL.Fact.of ?a ?l ?c ?k; (case a => k_is); (case l => k_is); (case c => k_is); (case k => k_is))
    (case f38 => refine' DL.Fact.of ?a ?l ?c ?k; (case a => k_is); (case l => k_is); (case c => k_is); (case k => k_is))
    (case f39 => refine' DL.Fact.of ?a ?l ?c ?k; (case a => k_is); (case l => k_is); (case c => k_is); (case k => k_is))
    (case f40 => refine' DL.Fact.of ?a ?l ?c ?k; (case a => k_is); (case l => k_is); (case c => k_is); (case k => k_is))
    (case f41 => refine' DL.Fact.of ?a ?l ?c ?k; (case a => k_is); (case l => k_is); (case c => k_is); (case k => k_is))
    (case f42 => refine' DL.Fact.of ?a ?l ?c ?k; (case a => k_is); (case l => k_is); (case c => k_is); (case k => k_is))
    (case f43 => refine' DL.Fact.of ?a ?l ?c ?k; (case a => k_is); (case l => k_is); (case c => k_is); (case k => k_is))
    (case f44 => refine' DL.Fact.of ?a ?l ?c ?k; (case a => k_is); (case l => k_is); (case c => k_is); (case k => k_is))
    (case f45 => refine' DL.Fact.of ?a ?l ?c ?k; (case a => k_is); (case l => k_is); (case c => k_is); (case k => k_is))
    (case f46 => refine' DL.Fact.of ?a ?l ?c ?k; (case a => k_is); (case l => k_is); (case c => k_is); (case k => k_is))
    (case f47 => refine' DL.Fact.of ?a ?l ?c ?k; (case a => k_is); (case l => k_is); (case c => k_is); (case k => k_is))
    (case f48 => refine' DL.Fact.of ?a ?l ?c ?k; (case a => k_is); (case l => k_is); (case c => k_is); (case k => k_is))
    (case f49 => refine' DL.Fact.of ?a ?l ?c ?k; (case a => k_is); (case l => k_is); (case c => k_is); (case k => k_is))
    (case f50 => refine' DL.Fact.of ?a ?l ?c ?k; (case a => k_is); (case l => k_is); (case c => k_is); (case k => k_is))
    (case f51 => refine' DL.Fact.of ?a ?l ?c ?k; (case a => k_is); (case l => k_is); (case c => k_is); (case k => k_is))
    (case f52 => refine' DL.Fact.of ?a ?l ?c ?k; (case a => k_is); (case l => k_is); (case c => k_is); (case k => k_is))
    (case f53 => refine' DL.Fact.of ?a ?l ?c ?k; (case a => k_is); (case l => k_is); (case c => k_is); (case k => k_is))
    (case f54 => refine' DL.Fact.of ?a ?l ?c ?k; (case a => k_is); (case l => k_is); (case c => k_is); (case k => k_is))
    (case f55 => refine' DL.Fact.of ?a ?l ?c ?k; (case a => k_is); (case l => k_is); (case c => k_is); (case k => k_is))
    (case f56 => refine' DL.Fact.of ?a ?l ?c ?k; (case a => k_is); (case l => k_is); (case c => k_is); (case k => k_is))
    (case f57 => refine' DL.Fact.of ?a ?l ?c ?k; (case a => k_is); (case l => k_is); (case c => k_is); (case k => k_is))
    (case f58 => refine' DL.Fact.of ?a ?l ?c ?k; (case a => k_is); (case l => k_is); (case c => k_is); (case k => k_is))
    (case f59 => refine' DL.Fact.of ?a ?l ?c ?k; (case a => k_is); (case l => k_is); (case c => k_is); (case k => k_is))
    (case f60 => refine' DL.Fact.of ?a ?l ?c ?k; (case a => k_is); (case l => k_is); (case c => k_is); (case k => k_is))
    (case f61 => refine' DL.Fact.of ?a ?l ?c ?k; (case a => k_is); (case l => k_is); (case c => k_is); (case k => k_is))
    (case f62 => refine' DL.Fact.of ?a ?l ?c ?k; (case a => k_is); (case l => k_is); (case c => k_is); (case k => k_is))
    (case f63 => refine' DL.Fact.of ?a ?l ?c ?k; (case a => k_is); (case l => k_is); (case c => k_is); (case k => k_is))
    (case k_MOST_BOILS => k_is)
    (case k_MOST_PLATES => k_is)
    (case k_MOST_SAMPLES => k_is)
    (case k_ONE => k_is)
    (case l_ONE => k_is)
    (case z0 => k_is)
    (case z1 => k_is)
    (case z2 => k_is)
    (case z3 => k_is)
    (case z4 => k_is)
    (case z5 => k_is)
    (case z6 => k_is)
    (case z7 => k_is)
    (case z8 => k_is)
    (case z9 => k_is)
    (case z10 => k_is)
    (case z11 => k_is)
    (case z12 => k_is)
    (case gg => k_is)
